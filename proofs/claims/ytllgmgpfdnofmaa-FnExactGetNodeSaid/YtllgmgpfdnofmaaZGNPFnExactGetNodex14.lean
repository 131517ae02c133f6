-- Written by a program of this session, which builds on the kit's print
import Derived.Test.YtllgmgpfdnofmaaZGNPFnExactGetNodex0
import Derived.Test.YtllgmgpfdnofmaaZGNPFnExactGetNodex1
import Derived.Test.YtllgmgpfdnofmaaZGNPFnExactGetNodex2
import Derived.Test.YtllgmgpfdnofmaaZGNPFnExactGetNodex7
import Derived.Test.YtllgmgpfdnofmaaZGNPFnExactGetNodex8
import Derived.Test.YtllgmgpfdnofmaaZGNPFnExactGetNodex12
import Derived.Test.YtllgmgpfdnofmaaZGNPFnExactGetNodex13
namespace Go.Proofs.Ytllgmgpfdnofmaa.PFnExactGetNode
open Go.RowKit Go.Proofs.YtllgmgpfdnofmaaW.PrintWords Go.Proofs.YtllgmgpfdnofmaaW.PrintLast Go.Proofs.YtllgmgpfdnofmaaW.PrintMore Go.Proofs.Ytllgmgpfdnofmaa.Xtra
attribute [local go_sem] max2_int min2_int max_two min_two max_three min_three max_four min_four str_leq str_gtr str_geq setCell_drewN cell_set2 cell_set3   -- for this text's walks alone
set_option linter.unusedVariables false
set_option linter.unusedSimpArgs false

/-! ### laws_FnExactGetNode: function 4 -/
mutual
def laws_FnExactGetNode.j0 : Nat → List Int → Bool → List Int → Bool → Bool → Bool → List ByteArray → List ByteArray → List Int → Bool → List ByteArray → List ByteArray → List Int → Option (Bool)
 | 0, _, _, _, _, _, _, _, _, _, _, _, _, _ => none
 | k + 1, x0, x4, x5, x7, x37, x348000, x348001, x348002, x348003, x363000, x363001, x363002, x363003 => if x37 = true then (some false) else ((laws_toByteS.f k x0).bind fun t364 => ((laws_eqByteS.f k x5 t364).bind fun t367 => (if t367 = true then ((laws_markByteS.f k x5 1).bind fun bt368 => (if bt368.1 < 0 then (laws_FnExactGetNode.j1 k x0 x4 true x348000 x348001 x348002 x348003 x363000 x363001 x363002 x363003) else ((laws_eqNode.f k x363000 x363001 x363002 x363003 x348000 x348001 x348002 x348003).bind fun t370 => (if t370 = true then (laws_FnExactGetNode.j1 k x0 x4 (x7 != x4) x348000 x348001 x348002 x348003 x363000 x363001 x363002 x363003) else (laws_FnExactGetNode.j1 k x0 x4 true x348000 x348001 x348002 x348003 x363000 x363001 x363002 x363003))))) else (some false))))
def laws_FnExactGetNode.j1 : Nat → List Int → Bool → Bool → Bool → List ByteArray → List ByteArray → List Int → Bool → List ByteArray → List ByteArray → List Int → Option (Bool)
 | 0, _, _, _, _, _, _, _, _, _, _, _ => none
 | k + 1, x0, x4, x58, x348000, x348001, x348002, x348003, x363000, x363001, x363002, x363003 => if x58 = true then (some false) else ((laws_markNode.f k x363000 x363001 x363002 x363003 1).bind fun bt371 => ((laws_heldNode.f k x363000 bt371.2.1 bt371.2.2.1 bt371.2.2.2 1).bind fun t375 => (if t375 < 0 then (some false) else (if t375 = bt371.1 then ((laws_toByteS.f k x0).bind fun t376 => ((impl_GetNode.f k t376).bind fun bt379 => ((laws_eqNode.f k bt379.1 bt379.2.1 bt379.2.2.1 bt379.2.2.2.1 x348000 x348001 x348002 x348003).bind fun t391 => (if t391 = true then (laws_FnExactGetNode.j2 k bt371.1 (bt379.2.2.2.2 != x4) x363000 bt371.2.1 bt371.2.2.1 bt371.2.2.2) else (laws_FnExactGetNode.j2 k bt371.1 true x363000 bt371.2.1 bt371.2.2.1 bt371.2.2.2))))) else (some false)))))
def laws_FnExactGetNode.j2 : Nat → Int → Bool → Bool → List ByteArray → List ByteArray → List Int → Option (Bool)
 | 0, _, _, _, _, _, _ => none
 | k + 1, x9, x84, x363000, x363001, x363002, x363003 => if x84 = true then (some false) else ((laws_heldNode.f k x363000 x363001 x363002 x363003 1).bind fun t392 => (if t392 < 0 then (some false) else (if t392 = x9 then (some true) else (some false))))
end
def laws_FnExactGetNode.f (k : Nat) (l0 : List Int) : Option (Bool) := if (l0.length : Int) > 1048576 then (some true) else ((laws_toByteS.f k l0).bind fun t333 => ((spec_GetNode.f k t333).bind fun bt336 => ((laws_toByteS.f k l0).bind fun t348 => ((impl_GetNode.f k t348).bind fun bt351 => ((laws_eqNode.f k bt351.1 bt351.2.1 bt351.2.2.1 bt351.2.2.2.1 bt336.1 bt336.2.1 bt336.2.2.1 bt336.2.2.2.1).bind fun t363 => (if t363 = true then (laws_FnExactGetNode.j0 k l0 bt336.2.2.2.2 t348 bt351.2.2.2.2 (bt351.2.2.2.2 != bt336.2.2.2.2) bt336.1 bt336.2.1 bt336.2.2.1 bt336.2.2.2.1 bt351.1 bt351.2.1 bt351.2.2.1 bt351.2.2.2.1) else (laws_FnExactGetNode.j0 k l0 bt336.2.2.2.2 t348 bt351.2.2.2.2 true bt336.1 bt336.2.1 bt336.2.2.1 bt336.2.2.2.1 bt351.1 bt351.2.1 bt351.2.2.1 bt351.2.2.2.1)))))))
theorem laws_FnExactGetNode.mono_l : ∀ k, (∀ y0 y1 y2 y3 y4 y5 y6 y7 y8 y9 y10 y11 y12, LeO (laws_FnExactGetNode.j0 k y0 y1 y2 y3 y4 y5 y6 y7 y8 y9 y10 y11 y12) (laws_FnExactGetNode.j0 (k + 1) y0 y1 y2 y3 y4 y5 y6 y7 y8 y9 y10 y11 y12)) ∧ (∀ y0 y1 y2 y3 y4 y5 y6 y7 y8 y9 y10, LeO (laws_FnExactGetNode.j1 k y0 y1 y2 y3 y4 y5 y6 y7 y8 y9 y10) (laws_FnExactGetNode.j1 (k + 1) y0 y1 y2 y3 y4 y5 y6 y7 y8 y9 y10)) ∧ (∀ y0 y1 y2 y3 y4 y5, LeO (laws_FnExactGetNode.j2 k y0 y1 y2 y3 y4 y5) (laws_FnExactGetNode.j2 (k + 1) y0 y1 y2 y3 y4 y5))
 | 0 => ⟨fun _ _ _ _ _ _ _ _ _ _ _ _ _ r h => by simp [laws_FnExactGetNode.j0] at h, fun _ _ _ _ _ _ _ _ _ _ _ r h => by simp [laws_FnExactGetNode.j1] at h, fun _ _ _ _ _ _ r h => by simp [laws_FnExactGetNode.j2] at h⟩
 | k + 1 => by
  obtain ⟨ih0, ih1, ih2⟩ := laws_FnExactGetNode.mono_l k
  refine ⟨?_, ?_, ?_⟩
  ·intro y0 y1 y2 y3 y4 y5 y6 y7 y8 y9 y10 y11 y12
   unfold laws_FnExactGetNode.j0
   repeat' first
   | (with_reducible exact ih0 _ _ _ _ _ _ _ _ _ _ _ _ _)
   | (with_reducible exact ih1 _ _ _ _ _ _ _ _ _ _ _)
   | (with_reducible exact ih2 _ _ _ _ _ _)
   | (with_reducible exact impl_GetNode.mono _ _)
   | (with_reducible exact laws_eqByteS.mono _ _ _)
   | (with_reducible exact laws_eqNode.mono _ _ _ _ _ _ _ _ _)
   | (with_reducible exact laws_heldNode.mono _ _ _ _ _ _)
   | (with_reducible exact laws_markByteS.mono _ _ _)
   | (with_reducible exact laws_markNode.mono _ _ _ _ _ _)
   | (with_reducible exact laws_toByteS.mono _ _)
   | (with_reducible exact spec_GetNode.mono _ _)
   | (with_reducible exact LeO.refl _)
   | (with_reducible exact LeO.none _)
   | (with_reducible refine LeO.ite ?_ ?_)
   | (with_reducible refine LeO.bind ?_ (fun _ => ?_))
   | exact ih0 _ _ _ _ _ _ _ _ _ _ _ _ _
   | exact ih1 _ _ _ _ _ _ _ _ _ _ _
   | exact ih2 _ _ _ _ _ _
   | exact impl_GetNode.mono _ _
   | exact laws_eqByteS.mono _ _ _
   | exact laws_eqNode.mono _ _ _ _ _ _ _ _ _
   | exact laws_heldNode.mono _ _ _ _ _ _
   | exact laws_markByteS.mono _ _ _
   | exact laws_markNode.mono _ _ _ _ _ _
   | exact laws_toByteS.mono _ _
   | exact spec_GetNode.mono _ _
   | exact LeO.none _
   | refine LeO.ite ?_ ?_
   | refine LeO.bind ?_ (fun _ => ?_)
  ·intro y0 y1 y2 y3 y4 y5 y6 y7 y8 y9 y10
   unfold laws_FnExactGetNode.j1
   repeat' first
   | (with_reducible exact ih0 _ _ _ _ _ _ _ _ _ _ _ _ _)
   | (with_reducible exact ih1 _ _ _ _ _ _ _ _ _ _ _)
   | (with_reducible exact ih2 _ _ _ _ _ _)
   | (with_reducible exact impl_GetNode.mono _ _)
   | (with_reducible exact laws_eqByteS.mono _ _ _)
   | (with_reducible exact laws_eqNode.mono _ _ _ _ _ _ _ _ _)
   | (with_reducible exact laws_heldNode.mono _ _ _ _ _ _)
   | (with_reducible exact laws_markByteS.mono _ _ _)
   | (with_reducible exact laws_markNode.mono _ _ _ _ _ _)
   | (with_reducible exact laws_toByteS.mono _ _)
   | (with_reducible exact spec_GetNode.mono _ _)
   | (with_reducible exact LeO.refl _)
   | (with_reducible exact LeO.none _)
   | (with_reducible refine LeO.ite ?_ ?_)
   | (with_reducible refine LeO.bind ?_ (fun _ => ?_))
   | exact ih0 _ _ _ _ _ _ _ _ _ _ _ _ _
   | exact ih1 _ _ _ _ _ _ _ _ _ _ _
   | exact ih2 _ _ _ _ _ _
   | exact impl_GetNode.mono _ _
   | exact laws_eqByteS.mono _ _ _
   | exact laws_eqNode.mono _ _ _ _ _ _ _ _ _
   | exact laws_heldNode.mono _ _ _ _ _ _
   | exact laws_markByteS.mono _ _ _
   | exact laws_markNode.mono _ _ _ _ _ _
   | exact laws_toByteS.mono _ _
   | exact spec_GetNode.mono _ _
   | exact LeO.none _
   | refine LeO.ite ?_ ?_
   | refine LeO.bind ?_ (fun _ => ?_)
  ·intro y0 y1 y2 y3 y4 y5
   unfold laws_FnExactGetNode.j2
   repeat' first
   | (with_reducible exact ih0 _ _ _ _ _ _ _ _ _ _ _ _ _)
   | (with_reducible exact ih1 _ _ _ _ _ _ _ _ _ _ _)
   | (with_reducible exact ih2 _ _ _ _ _ _)
   | (with_reducible exact impl_GetNode.mono _ _)
   | (with_reducible exact laws_eqByteS.mono _ _ _)
   | (with_reducible exact laws_eqNode.mono _ _ _ _ _ _ _ _ _)
   | (with_reducible exact laws_heldNode.mono _ _ _ _ _ _)
   | (with_reducible exact laws_markByteS.mono _ _ _)
   | (with_reducible exact laws_markNode.mono _ _ _ _ _ _)
   | (with_reducible exact laws_toByteS.mono _ _)
   | (with_reducible exact spec_GetNode.mono _ _)
   | (with_reducible exact LeO.refl _)
   | (with_reducible exact LeO.none _)
   | (with_reducible refine LeO.ite ?_ ?_)
   | (with_reducible refine LeO.bind ?_ (fun _ => ?_))
   | exact ih0 _ _ _ _ _ _ _ _ _ _ _ _ _
   | exact ih1 _ _ _ _ _ _ _ _ _ _ _
   | exact ih2 _ _ _ _ _ _
   | exact impl_GetNode.mono _ _
   | exact laws_eqByteS.mono _ _ _
   | exact laws_eqNode.mono _ _ _ _ _ _ _ _ _
   | exact laws_heldNode.mono _ _ _ _ _ _
   | exact laws_markByteS.mono _ _ _
   | exact laws_markNode.mono _ _ _ _ _ _
   | exact laws_toByteS.mono _ _
   | exact spec_GetNode.mono _ _
   | exact LeO.none _
   | refine LeO.ite ?_ ?_
   | refine LeO.bind ?_ (fun _ => ?_)
theorem laws_FnExactGetNode.mono : ∀ a0 k, LeO (laws_FnExactGetNode.f k a0) (laws_FnExactGetNode.f (k + 1) a0) := by
 intro a0 k
 obtain ⟨ih0, ih1, ih2⟩ := laws_FnExactGetNode.mono_l k
 unfold laws_FnExactGetNode.f
 repeat' first
   | (with_reducible exact ih0 _ _ _ _ _ _ _ _ _ _ _ _ _)
   | (with_reducible exact ih1 _ _ _ _ _ _ _ _ _ _ _)
   | (with_reducible exact ih2 _ _ _ _ _ _)
   | (with_reducible exact impl_GetNode.mono _ _)
   | (with_reducible exact laws_eqByteS.mono _ _ _)
   | (with_reducible exact laws_eqNode.mono _ _ _ _ _ _ _ _ _)
   | (with_reducible exact laws_heldNode.mono _ _ _ _ _ _)
   | (with_reducible exact laws_markByteS.mono _ _ _)
   | (with_reducible exact laws_markNode.mono _ _ _ _ _ _)
   | (with_reducible exact laws_toByteS.mono _ _)
   | (with_reducible exact spec_GetNode.mono _ _)
   | (with_reducible exact LeO.refl _)
   | (with_reducible exact LeO.none _)
   | (with_reducible refine LeO.ite ?_ ?_)
   | (with_reducible refine LeO.bind ?_ (fun _ => ?_))
   | exact ih0 _ _ _ _ _ _ _ _ _ _ _ _ _
   | exact ih1 _ _ _ _ _ _ _ _ _ _ _
   | exact ih2 _ _ _ _ _ _
   | exact impl_GetNode.mono _ _
   | exact laws_eqByteS.mono _ _ _
   | exact laws_eqNode.mono _ _ _ _ _ _ _ _ _
   | exact laws_heldNode.mono _ _ _ _ _ _
   | exact laws_markByteS.mono _ _ _
   | exact laws_markNode.mono _ _ _ _ _ _
   | exact laws_toByteS.mono _ _
   | exact spec_GetNode.mono _ _
   | exact LeO.none _
   | refine LeO.ite ?_ ?_
   | refine LeO.bind ?_ (fun _ => ?_)
set_option maxHeartbeats 8000000 in
set_option maxRecDepth 100000 in
theorem laws_FnExactGetNode.calls (k : Nat) (A0 : Option Addr) (c0 : Nat) (l0 : List Int) (r : Bool) (w : World) (hr0 : Kd.C (Kd.int .u8) w A0 l0.length l0) (hc0 : l0.length ≤ c0) (hr_ : Aside0 (r = true)) (h : laws_FnExactGetNode.f k l0 = some r) :
  Calls Try.prog 4 #[.slice A0 l0.length c0] w fun e w' => e = .returned (.bool r) ∧ Below w.heap.size w w' := by
 have hu29 := Try.underlying29
 have HR0 := aM_ hr0
 have HC0 := aM_ hc0
 clear hr0 hc0
 have HB := aM_ (Below.refl w.heap.size w)
 have H : (if (l0.length : Int) > 1048576 then (some true) else ((laws_toByteS.f k l0).bind fun t333 => ((spec_GetNode.f k t333).bind fun bt336 => ((laws_toByteS.f k l0).bind fun t348 => ((impl_GetNode.f k t348).bind fun bt351 => ((laws_eqNode.f k bt351.1 bt351.2.1 bt351.2.2.1 bt351.2.2.2.1 bt336.1 bt336.2.1 bt336.2.2.1 bt336.2.2.2.1).bind fun t363 => (if t363 = true then (laws_FnExactGetNode.j0 k l0 bt336.2.2.2.2 t348 bt351.2.2.2.2 (bt351.2.2.2.2 != bt336.2.2.2.2) bt336.1 bt336.2.1 bt336.2.2.1 bt336.2.2.2.1 bt351.1 bt351.2.1 bt351.2.2.1 bt351.2.2.2.1) else (laws_FnExactGetNode.j0 k l0 bt336.2.2.2.2 t348 bt351.2.2.2.2 true bt336.1 bt336.2.1 bt336.2.2.1 bt336.2.2.2.1 bt351.1 bt351.2.1 bt351.2.2.1 bt351.2.2.2.1)))))))) = some r := h
 clear h
 by_cases c2 : (l0.length : Int) > 1048576
 ·rw [if_pos c2] at H
  have c2b0 : decide (1048576 < (l0.length : Int)) = true := decide_eq_true c2
  have c2b1 : decide (1048576 < l0.length) = true := decide_eq_true (by omega)
  clear c2
  obtain rfl := Option.some.inj H
  go_enter Try.func4, Try.ntmps4
  go_wp2
  go_ret
  exact ⟨by first | rfl | (simp [errW_none, errW_some] <;> rfl) | (simp [*, errW_none, errW_some] <;> rfl), by repeat (first | (with_reducible first | exact HB.out | apply bA_ | apply bN_ | apply bD_) | exact HB.out)⟩
 ·rw [if_neg c2] at H
  have c2b0 : decide (1048576 < (l0.length : Int)) = false := decide_eq_false c2
  have c2b1 : decide (1048576 < l0.length) = false := decide_eq_false (by omega)
  clear c2
  replace H := oB_ H
  obtain ⟨t333, A30, H⟩ := H
  replace H : ((spec_GetNode.f k t333).bind fun bt336 => ((laws_toByteS.f k l0).bind fun t348 => ((impl_GetNode.f k t348).bind fun bt351 => ((laws_eqNode.f k bt351.1 bt351.2.1 bt351.2.2.1 bt351.2.2.2.1 bt336.1 bt336.2.1 bt336.2.2.1 bt336.2.2.2.1).bind fun t363 => (if t363 = true then (laws_FnExactGetNode.j0 k l0 bt336.2.2.2.2 t348 bt351.2.2.2.2 (bt351.2.2.2.2 != bt336.2.2.2.2) bt336.1 bt336.2.1 bt336.2.2.1 bt336.2.2.2.1 bt351.1 bt351.2.1 bt351.2.2.1 bt351.2.2.2.1) else (laws_FnExactGetNode.j0 k l0 bt336.2.2.2.2 t348 bt351.2.2.2.2 true bt336.1 bt336.2.1 bt336.2.2.1 bt336.2.2.2.1 bt351.1 bt351.2.1 bt351.2.2.1 bt351.2.2.2.1)))))) = some r := H
  have A3 := aM_ A30
  clear A30
  replace H := oB_ H
  obtain ⟨⟨t336, t337, t340, t343, t346⟩, A40, H⟩ := H
  replace H : ((laws_toByteS.f k l0).bind fun t348 => ((impl_GetNode.f k t348).bind fun bt351 => ((laws_eqNode.f k bt351.1 bt351.2.1 bt351.2.2.1 bt351.2.2.2.1 t336 t337 t340 t343).bind fun t363 => (if t363 = true then (laws_FnExactGetNode.j0 k l0 t346 t348 bt351.2.2.2.2 (bt351.2.2.2.2 != t346) t336 t337 t340 t343 bt351.1 bt351.2.1 bt351.2.2.1 bt351.2.2.2.1) else (laws_FnExactGetNode.j0 k l0 t346 t348 bt351.2.2.2.2 true t336 t337 t340 t343 bt351.1 bt351.2.1 bt351.2.2.1 bt351.2.2.2.1))))) = some r := H
  have A4 := aM_ A40
  clear A40
  replace H := oB_ H
  obtain ⟨t348, A50, H⟩ := H
  replace H : ((impl_GetNode.f k t348).bind fun bt351 => ((laws_eqNode.f k bt351.1 bt351.2.1 bt351.2.2.1 bt351.2.2.2.1 t336 t337 t340 t343).bind fun t363 => (if t363 = true then (laws_FnExactGetNode.j0 k l0 t346 t348 bt351.2.2.2.2 (bt351.2.2.2.2 != t346) t336 t337 t340 t343 bt351.1 bt351.2.1 bt351.2.2.1 bt351.2.2.2.1) else (laws_FnExactGetNode.j0 k l0 t346 t348 bt351.2.2.2.2 true t336 t337 t340 t343 bt351.1 bt351.2.1 bt351.2.2.1 bt351.2.2.2.1)))) = some r := H
  have A5 := aM_ A50
  clear A50
  replace H := oB_ H
  obtain ⟨⟨t351, t352, t355, t358, t361⟩, A60, H⟩ := H
  replace H : ((laws_eqNode.f k t351 t352 t355 t358 t336 t337 t340 t343).bind fun t363 => (if t363 = true then (laws_FnExactGetNode.j0 k l0 t346 t348 t361 (t361 != t346) t336 t337 t340 t343 t351 t352 t355 t358) else (laws_FnExactGetNode.j0 k l0 t346 t348 t361 true t336 t337 t340 t343 t351 t352 t355 t358))) = some r := H
  have A6 := aM_ A60
  clear A60
  have HC7 := aM_ H
  clear H
  go_enter Try.func4, Try.ntmps4
  go_upto_region 6 with (first | ((with_reducible refine gate_callee (f := 22) rfl ?_); refine goesL_ (some 18) rfl rfl Try.func22 (by kernel_rfl) rfl #[.slice A0 l0.length c0] rfl (by (try simp only [mA_, mC_, mN_]); first | done | rfl | (simp only [lD_, lT_]; rfl)) ?_; (with_reducible refine (laws_toByteS.calls k _ _ l0 t333 _ ?side1 ?side2 A3.out).mono ?_); (case side1 => repeat (first | exact HR0.out | (with_reducible refine cA_ ?_ _) | (with_reducible refine cN_ ?_ _) | (with_reducible refine cD_ ?_))); (case side2 => exact HC0.out); rintro e w8 ⟨v334, rfl, ho0, hb⟩; refine ⟨_, rfl, ?_⟩; have n0_ := aM_ (Kd.R_lower ho0 (bS_ (by repeat (first | (with_reducible first | exact HB.out | apply bA_ | apply bN_ | apply bD_) | exact HB.out)))); have n1_ := aM_ (bT_ (by repeat (first | (with_reducible first | exact HB.out | apply bA_ | apply bN_ | apply bD_) | exact HB.out)) hb); clear HB; have HO335 := n0_; have HB := n1_; clear n0_ n1_; (try clear hb); (try clear hb2); (try clear hk); (try clear hi); (try clear ho0); obtain ⟨Ao9, co9, eo9⟩ := Kd.R_slice HO335.out; subst eo9) | ((with_reducible refine gate_callee (f := 21) rfl ?_); refine goesL_ (some 19) rfl rfl Try.func21 (by kernel_rfl) rfl #[.slice Ao9 t333.length co9] rfl (by (try simp only [mA_, mC_, mN_]); first | done | rfl | (simp only [lD_, lT_]; rfl)) ?_; (with_reducible refine (spec_GetNode.calls k _ _ t333 t336 t337 t340 t343 t346 _ ?side1 ?side2 A4.out).mono ?_); (case side1 => repeat (first | exact (Kd.R_reads' HO335.out).2.2 | (with_reducible refine cA_ ?_ _) | (with_reducible refine cN_ ?_ _) | (with_reducible refine cD_ ?_))); (case side2 => exact (Kd.R_reads' HO335.out).2.1); rintro e w10 ⟨v338, v341, v344, rfl, ho0, ho1, ho2, hb⟩; refine ⟨_, rfl, ?_⟩; have n0_ := aM_ (Kd.R_below (by (with_reducible repeat (first | apply rA_ | apply rN_ | apply rD_)); exact HO335.out) hb); have n1_ := aM_ (Kd.R_lower ho0 (bS_ (by repeat (first | (with_reducible first | exact HB.out | apply bA_ | apply bN_ | apply bD_) | exact HB.out)))); have n2_ := aM_ (Kd.R_lower ho1 (bS_ (by repeat (first | (with_reducible first | exact HB.out | apply bA_ | apply bN_ | apply bD_) | exact HB.out)))); have n3_ := aM_ (Kd.R_lower ho2 (bS_ (by repeat (first | (with_reducible first | exact HB.out | apply bA_ | apply bN_ | apply bD_) | exact HB.out)))); have n4_ := aM_ (bT_ (by repeat (first | (with_reducible first | exact HB.out | apply bA_ | apply bN_ | apply bD_) | exact HB.out)) hb); clear HO335; clear HB; have HO335 := n0_; have HO339 := n1_; have HO342 := n2_; have HO345 := n3_; have HB := n4_; clear n0_ n1_ n2_ n3_ n4_; (try clear hb); (try clear hb2); (try clear hk); (try clear hi); (try clear ho0); (try clear ho1); (try clear ho2)) | ((with_reducible refine gate_dst (N := 3) rfl ?_); refine box_event ?hg (N := 3) ?hd (cs := #[.bool false, .slice none 0 0, .slice none 0 0, .slice none 0 0]) (t := 29) ?hr ?_; (case hd => rfl); (case hg => rfl); (case hr => first | (go_simp; done) | (go_simp; rfl)); intro gb347 hg w11 hbox hb; have n0_ := aM_ (Kd.R_below (by (with_reducible repeat (first | apply rA_ | apply rN_ | apply rD_)); exact HO335.out) hb); have n1_ := aM_ (Kd.R_below (by (with_reducible repeat (first | apply rA_ | apply rN_ | apply rD_)); exact HO339.out) hb); have n2_ := aM_ (Kd.R_below (by (with_reducible repeat (first | apply rA_ | apply rN_ | apply rD_)); exact HO342.out) hb); have n3_ := aM_ (Kd.R_below (by (with_reducible repeat (first | apply rA_ | apply rN_ | apply rD_)); exact HO345.out) hb); have n4_ := aM_ (bT_ (by repeat (first | (with_reducible first | exact HB.out | apply bA_ | apply bN_ | apply bD_) | exact HB.out)) hb); have n5_ := aM_ (hbox); have n6_ := aM_ ((by rw [hg]; exact (bS_ (by repeat (first | (with_reducible first | exact HB.out | apply bA_ | apply bN_ | apply bD_) | exact HB.out))) : w.heap.size ≤ gb347)); have n7_ := aM_ ((by rw [hg]; exact (bS_ (by repeat (first | (with_reducible first | exact HB.out | apply bA_ | apply bN_ | apply bD_) | exact HB.out))) : w.heap.size ≤ gb347)); clear HO335; clear HO339; clear HO342; clear HO345; clear HB; have HO335 := n0_; have HO339 := n1_; have HO342 := n2_; have HO345 := n3_; have HB := n4_; have BK347 := n5_; have GW347 := n6_; have GE347 := n7_; clear n0_ n1_ n2_ n3_ n4_ n5_ n6_ n7_; clear hb hbox hg; have hcz12_0 : w11.cell? ⟨gb347, 0, none⟩ = some (.bool false) := (kC_ BK347.out 0).trans rfl; have hcz12_1 : w11.cell? ⟨gb347, 1, none⟩ = some (.slice none 0 0) := (kC_ BK347.out 1).trans rfl; have hcz12_2 : w11.cell? ⟨gb347, 2, none⟩ = some (.slice none 0 0) := (kC_ BK347.out 2).trans rfl; have hcz12_3 : w11.cell? ⟨gb347, 3, none⟩ = some (.slice none 0 0) := (kC_ BK347.out 3).trans rfl; have hfz12_0 := kF_ BK347.out 0; have hfz12_1 := kF_ BK347.out 1; have hfz12_2 := kF_ BK347.out 2; have hfz12_3 := kF_ BK347.out 3; obtain ⟨Ao13, co13, eo13⟩ := Kd.R_slice HO339.out; subst eo13; obtain ⟨Ao14, co14, eo14⟩ := Kd.R_slice HO342.out; subst eo14; obtain ⟨Ao15, co15, eo15⟩ := Kd.R_slice HO345.out; subst eo15) | ((with_reducible refine gate_callee (f := 22) rfl ?_); refine goesL_ (some 23) rfl rfl Try.func22 (by kernel_rfl) rfl #[.slice A0 l0.length c0] rfl (by (try simp only [mA_, mC_, mN_]); first | done | rfl | (simp only [lD_, lT_]; rfl)) ?_; (with_reducible refine (laws_toByteS.calls k _ _ l0 t348 _ ?side1 ?side2 A5.out).mono ?_); (case side1 => exact Kd.C_below HR0.out (by repeat (first | (with_reducible first | exact HB.out | apply bA_ | apply bN_ | apply bD_ | refine bE_ ?_ GE347.out) | exact HB.out))); (case side2 => exact HC0.out); rintro e w16 ⟨v349, rfl, ho0, hb⟩; refine ⟨_, rfl, ?_⟩; have n0_ := aM_ (Kd.R_elder' (by (with_reducible repeat (first | apply rA_ | apply rN_ | apply rD_)); exact (Kd.R_mono (Kd.R_far (p := ⟨gb347, 3, none⟩) (Kd.R_far (p := ⟨gb347, 2, none⟩) (Kd.R_far (p := ⟨gb347, 1, none⟩) (Kd.R_far (p := ⟨gb347, 0, none⟩) (Kd.R_types HO335.out BK347.out (by decide)) (fun _ hk => hk.2) (.bool t336)) (fun _ hk => hk.2) (.slice Ao13 t337.length co13)) (fun _ hk => hk.2) (.slice Ao14 t340.length co14)) (fun _ hk => hk.2) (.slice Ao15 t343.length co15)) (fun _ h_ => h_.1))) (Kd.R_base ho0) hb); have n1_ := aM_ (Kd.R_below (by (with_reducible repeat (first | apply rA_ | apply rN_ | apply rD_)); exact (Kd.R_mono (Kd.R_far (p := ⟨gb347, 3, none⟩) (Kd.R_far (p := ⟨gb347, 2, none⟩) (Kd.R_far (p := ⟨gb347, 1, none⟩) (Kd.R_far (p := ⟨gb347, 0, none⟩) (Kd.R_types HO339.out BK347.out (by decide)) (fun _ hk => hk.2) (.bool t336)) (fun _ hk => hk.2) (.slice Ao13 t337.length co13)) (fun _ hk => hk.2) (.slice Ao14 t340.length co14)) (fun _ hk => hk.2) (.slice Ao15 t343.length co15)) (fun _ h_ => h_.1))) hb); have n2_ := aM_ (Kd.R_below (by (with_reducible repeat (first | apply rA_ | apply rN_ | apply rD_)); exact (Kd.R_mono (Kd.R_far (p := ⟨gb347, 3, none⟩) (Kd.R_far (p := ⟨gb347, 2, none⟩) (Kd.R_far (p := ⟨gb347, 1, none⟩) (Kd.R_far (p := ⟨gb347, 0, none⟩) (Kd.R_types HO342.out BK347.out (by decide)) (fun _ hk => hk.2) (.bool t336)) (fun _ hk => hk.2) (.slice Ao13 t337.length co13)) (fun _ hk => hk.2) (.slice Ao14 t340.length co14)) (fun _ hk => hk.2) (.slice Ao15 t343.length co15)) (fun _ h_ => h_.1))) hb); have n3_ := aM_ (Kd.R_below (by (with_reducible repeat (first | apply rA_ | apply rN_ | apply rD_)); exact (Kd.R_mono (Kd.R_far (p := ⟨gb347, 3, none⟩) (Kd.R_far (p := ⟨gb347, 2, none⟩) (Kd.R_far (p := ⟨gb347, 1, none⟩) (Kd.R_far (p := ⟨gb347, 0, none⟩) (Kd.R_types HO345.out BK347.out (by decide)) (fun _ hk => hk.2) (.bool t336)) (fun _ hk => hk.2) (.slice Ao13 t337.length co13)) (fun _ hk => hk.2) (.slice Ao14 t340.length co14)) (fun _ hk => hk.2) (.slice Ao15 t343.length co15)) (fun _ h_ => h_.1))) hb); have n4_ := aM_ (Kd.R_lower (Kd.R_new' ho0 (Kd.R_lt (by (with_reducible repeat (first | apply rA_ | apply rN_ | apply rD_)); exact (Kd.R_mono (Kd.R_far (p := ⟨gb347, 3, none⟩) (Kd.R_far (p := ⟨gb347, 2, none⟩) (Kd.R_far (p := ⟨gb347, 1, none⟩) (Kd.R_far (p := ⟨gb347, 0, none⟩) (Kd.R_types HO335.out BK347.out (by decide)) (fun _ hk => hk.2) (.bool t336)) (fun _ hk => hk.2) (.slice Ao13 t337.length co13)) (fun _ hk => hk.2) (.slice Ao14 t340.length co14)) (fun _ hk => hk.2) (.slice Ao15 t343.length co15)) (fun _ h_ => h_.1))))) (bS_ (by repeat (first | (with_reducible first | exact HB.out | apply bA_ | apply bN_ | apply bD_ | refine bE_ ?_ GE347.out) | exact HB.out)))); have n5_ := aM_ (blk_below (g := gb347) (o := .cells #[.bool t336, .slice Ao13 t337.length co13, .slice Ao14 t340.length co14, .slice Ao15 t343.length co15] 29 (0, 0)) (by (with_reducible repeat (first | refine kN_ ?_ _ | refine kD_ ?_ | refine kA_ ?_ _)); refine kP_ (cs := #[.bool t336, .slice Ao13 t337.length co13, .slice Ao14 t340.length co14, .slice none 0 0]) ?_ 3 _ rfl; (with_reducible repeat (first | refine kN_ ?_ _ | refine kD_ ?_ | refine kA_ ?_ _)); refine kP_ (cs := #[.bool t336, .slice Ao13 t337.length co13, .slice none 0 0, .slice none 0 0]) ?_ 2 _ rfl; (with_reducible repeat (first | refine kN_ ?_ _ | refine kD_ ?_ | refine kA_ ?_ _)); refine kP_ (cs := #[.bool t336, .slice none 0 0, .slice none 0 0, .slice none 0 0]) ?_ 1 _ rfl; (with_reducible repeat (first | refine kN_ ?_ _ | refine kD_ ?_ | refine kA_ ?_ _)); refine kP_ (cs := #[.bool false, .slice none 0 0, .slice none 0 0, .slice none 0 0]) ?_ 0 _ rfl; (with_reducible repeat (first | refine kN_ ?_ _ | refine kD_ ?_ | refine kA_ ?_ _)); exact BK347.out) hb); have n6_ := aM_ (bT_ (by repeat (first | (with_reducible first | exact HB.out | apply bA_ | apply bN_ | apply bD_ | refine bE_ ?_ GE347.out) | exact HB.out)) hb); clear HO335; clear HO339; clear HO342; clear HO345; clear BK347; clear HB; have HO335 := n0_; have HO339 := n1_; have HO342 := n2_; have HO345 := n3_; have HO350 := n4_; have BK347 := n5_; have HB := n6_; clear n0_ n1_ n2_ n3_ n4_ n5_ n6_; (try clear hb); (try clear hb2); (try clear hk); (try clear hi); (try clear ho0); obtain ⟨Ao17, co17, eo17⟩ := Kd.R_slice HO350.out; subst eo17) | ((with_reducible refine gate_callee (f := 23) rfl ?_); refine goesL_ (some 26) rfl rfl Try.func23 (by kernel_rfl) rfl #[.slice Ao17 t348.length co17] rfl (by (try simp only [mA_, mC_, mN_]); first | done | rfl | (simp only [lD_, lT_]; rfl)) ?_; (with_reducible refine (impl_GetNode.calls k _ _ t348 t351 t352 t355 t358 t361 _ ?side1 ?side2 A6.out).mono ?_); (case side1 => repeat (first | exact (Kd.R_reads' HO350.out).2.2 | (with_reducible refine cA_ ?_ _) | (with_reducible refine cN_ ?_ _) | (with_reducible refine cD_ ?_))); (case side2 => exact (Kd.R_reads' HO350.out).2.1); rintro e w18 ⟨v353, v356, v359, rfl, ho0, ho1, ho2, hb⟩; refine ⟨_, rfl, ?_⟩; have n0_ := aM_ (Kd.R_below (by (with_reducible repeat (first | apply rA_ | apply rN_ | apply rD_)); exact HO335.out) hb); have n1_ := aM_ (Kd.R_mono (Kd.R_told (Kd.R_told (Kd.R_old (by (with_reducible repeat (first | apply rA_ | apply rN_ | apply rD_)); exact HO339.out) hb) (Kd.R_base ho0)) (Kd.R_base ho1)) (fun _ h_ => h_.1)); have n2_ := aM_ (Kd.R_mono (Kd.R_told (Kd.R_told (Kd.R_old (by (with_reducible repeat (first | apply rA_ | apply rN_ | apply rD_)); exact HO342.out) hb) (Kd.R_base ho0)) (Kd.R_base ho1)) (fun _ h_ => h_.1)); have n3_ := aM_ (Kd.R_elder' (by (with_reducible repeat (first | apply rA_ | apply rN_ | apply rD_)); exact HO345.out) (Kd.R_base ho2) hb); have n4_ := aM_ (Kd.R_below (by (with_reducible repeat (first | apply rA_ | apply rN_ | apply rD_)); exact HO350.out) hb); have n5_ := aM_ (Kd.R_lower (Kd.R_new' (Kd.R_new' ho0 (Kd.R_lt (by (with_reducible repeat (first | apply rA_ | apply rN_ | apply rD_)); exact HO339.out))) (Kd.R_lt (by (with_reducible repeat (first | apply rA_ | apply rN_ | apply rD_)); exact HO342.out))) (bS_ (by repeat (first | (with_reducible first | exact HB.out | apply bA_ | apply bN_ | apply bD_ | refine bE_ ?_ GE347.out) | exact HB.out)))); have n6_ := aM_ (Kd.R_lower (Kd.R_new' (Kd.R_new' ho1 (Kd.R_lt (by (with_reducible repeat (first | apply rA_ | apply rN_ | apply rD_)); exact HO339.out))) (Kd.R_lt (by (with_reducible repeat (first | apply rA_ | apply rN_ | apply rD_)); exact HO342.out))) (bS_ (by repeat (first | (with_reducible first | exact HB.out | apply bA_ | apply bN_ | apply bD_ | refine bE_ ?_ GE347.out) | exact HB.out)))); have n7_ := aM_ (Kd.R_lower (Kd.R_new' ho2 (Kd.R_lt (by (with_reducible repeat (first | apply rA_ | apply rN_ | apply rD_)); exact HO345.out))) (bS_ (by repeat (first | (with_reducible first | exact HB.out | apply bA_ | apply bN_ | apply bD_ | refine bE_ ?_ GE347.out) | exact HB.out)))); have n8_ := aM_ (blk_below (g := gb347) (o := .cells #[.bool t336, .slice Ao13 t337.length co13, .slice Ao14 t340.length co14, .slice Ao15 t343.length co15] 29 (0, 0)) (by (with_reducible repeat (first | refine kN_ ?_ _ | refine kD_ ?_ | refine kA_ ?_ _)); exact BK347.out) hb); have n9_ := aM_ (bT_ (by repeat (first | (with_reducible first | exact HB.out | apply bA_ | apply bN_ | apply bD_ | refine bE_ ?_ GE347.out) | exact HB.out)) hb); clear HO335; clear HO339; clear HO342; clear HO345; clear HO350; clear BK347; clear HB; have HO335 := n0_; have HO339 := n1_; have HO342 := n2_; have HO345 := n3_; have HO350 := n4_; have HO354 := n5_; have HO357 := n6_; have HO360 := n7_; have BK347 := n8_; have HB := n9_; clear n0_ n1_ n2_ n3_ n4_ n5_ n6_ n7_ n8_ n9_; (try clear hb); (try clear hb2); (try clear hk); (try clear hi); (try clear ho0); (try clear ho1); (try clear ho2)) | ((with_reducible refine gate_dst (N := 6) rfl ?_); refine box_event ?hg (N := 6) ?hd (cs := #[.bool false, .slice none 0 0, .slice none 0 0, .slice none 0 0]) (t := 29) ?hr ?_; (case hd => rfl); (case hg => rfl); (case hr => first | (go_simp; done) | (go_simp; rfl)); intro gb362 hg w19 hbox hb; have n0_ := aM_ (Kd.R_below (by (with_reducible repeat (first | apply rA_ | apply rN_ | apply rD_)); exact HO335.out) hb); have n1_ := aM_ (Kd.R_below (by (with_reducible repeat (first | apply rA_ | apply rN_ | apply rD_)); exact HO339.out) hb); have n2_ := aM_ (Kd.R_below (by (with_reducible repeat (first | apply rA_ | apply rN_ | apply rD_)); exact HO342.out) hb); have n3_ := aM_ (Kd.R_below (by (with_reducible repeat (first | apply rA_ | apply rN_ | apply rD_)); exact HO345.out) hb); have n4_ := aM_ (Kd.R_below (by (with_reducible repeat (first | apply rA_ | apply rN_ | apply rD_)); exact HO350.out) hb); have n5_ := aM_ (Kd.R_below (by (with_reducible repeat (first | apply rA_ | apply rN_ | apply rD_)); exact HO354.out) hb); have n6_ := aM_ (Kd.R_below (by (with_reducible repeat (first | apply rA_ | apply rN_ | apply rD_)); exact HO357.out) hb); have n7_ := aM_ (Kd.R_below (by (with_reducible repeat (first | apply rA_ | apply rN_ | apply rD_)); exact HO360.out) hb); have n8_ := aM_ (blk_below (g := gb347) (o := .cells #[.bool t336, .slice Ao13 t337.length co13, .slice Ao14 t340.length co14, .slice Ao15 t343.length co15] 29 (0, 0)) (by (with_reducible repeat (first | refine kN_ ?_ _ | refine kD_ ?_ | refine kA_ ?_ _)); exact BK347.out) hb); have n9_ := aM_ (bT_ (by repeat (first | (with_reducible first | exact HB.out | apply bA_ | apply bN_ | apply bD_ | refine bE_ ?_ GE347.out) | exact HB.out)) hb); have n10_ := aM_ (hbox); have n11_ := aM_ ((by rw [hg]; exact (bS_ (by repeat (first | (with_reducible first | exact HB.out | apply bA_ | apply bN_ | apply bD_ | refine bE_ ?_ GE347.out) | exact HB.out))) : w.heap.size ≤ gb362)); have n12_ := aM_ ((by rw [hg]; exact (bS_ (by repeat (first | (with_reducible first | exact HB.out | apply bA_ | apply bN_ | apply bD_ | refine bE_ ?_ GE347.out) | exact HB.out))) : w.heap.size ≤ gb362)); have n13_ := aM_ ((by rw [hg]; exact Nat.ne_of_lt (blk_lt (g := gb347) (o := .cells #[.bool t336, .slice Ao13 t337.length co13, .slice Ao14 t340.length co14, .slice Ao15 t343.length co15] 29 (0, 0)) (by (with_reducible repeat (first | refine kN_ ?_ _ | refine kD_ ?_ | refine kA_ ?_ _)); exact BK347.out)) : gb347 ≠ gb362)); have n14_ := aM_ ((by rw [hg]; exact Nat.ne_of_gt (blk_lt (g := gb347) (o := .cells #[.bool t336, .slice Ao13 t337.length co13, .slice Ao14 t340.length co14, .slice Ao15 t343.length co15] 29 (0, 0)) (by (with_reducible repeat (first | refine kN_ ?_ _ | refine kD_ ?_ | refine kA_ ?_ _)); exact BK347.out)) : gb362 ≠ gb347)); clear HO335; clear HO339; clear HO342; clear HO345; clear HO350; clear HO354; clear HO357; clear HO360; clear BK347; clear HB; have HO335 := n0_; have HO339 := n1_; have HO342 := n2_; have HO345 := n3_; have HO350 := n4_; have HO354 := n5_; have HO357 := n6_; have HO360 := n7_; have BK347 := n8_; have HB := n9_; have BK362 := n10_; have GW362 := n11_; have GE362 := n12_; have NB347_362 := n13_; have NB362_347 := n14_; clear n0_ n1_ n2_ n3_ n4_ n5_ n6_ n7_ n8_ n9_ n10_ n11_ n12_ n13_ n14_; clear hb hbox hg; have hnb20 := NB362_347.out; have hnc20 := NB347_362.out; have hcz21_0 : w19.cell? ⟨gb362, 0, none⟩ = some (.bool false) := (kC_ BK362.out 0).trans rfl; have hcz21_1 : w19.cell? ⟨gb362, 1, none⟩ = some (.slice none 0 0) := (kC_ BK362.out 1).trans rfl; have hcz21_2 : w19.cell? ⟨gb362, 2, none⟩ = some (.slice none 0 0) := (kC_ BK362.out 2).trans rfl; have hcz21_3 : w19.cell? ⟨gb362, 3, none⟩ = some (.slice none 0 0) := (kC_ BK362.out 3).trans rfl; have hfz21_0 := kF_ BK362.out 0; have hfz21_1 := kF_ BK362.out 1; have hfz21_2 := kF_ BK362.out 2; have hfz21_3 := kF_ BK362.out 3; obtain ⟨Ao22, co22, eo22⟩ := Kd.R_slice HO354.out; subst eo22; obtain ⟨Ao23, co23, eo23⟩ := Kd.R_slice HO357.out; subst eo23; obtain ⟨Ao24, co24, eo24⟩ := Kd.R_slice HO360.out; subst eo24))
  (try simp only [Act.put, sI_, sZ_, sS_])
  go_cut [37] (fun v37 wc => ∃ (kq : Nat) (x37_6 : Bool), v37 = .bool x37_6 ∧ Aside0 (laws_FnExactGetNode.j0 kq l0 t346 t348 t361 x37_6 t336 t337 t340 t343 t351 t352 t355 t358 = some r) ∧ Aside0 (kq ≤ k) ∧ Aside0 (Kd.R (Kd.int .u8) 5 wc w.heap.size (fun _ => True) (.slice Ao17 t348.length co17) t348) ∧ Aside0 (Kd.R Kd.string 9 wc w.heap.size (fun k_ => some k_ ≠ ((.slice Ao14 t340.length co14) : Value).ownBlock ∧ some k_ ≠ ((.slice Ao22 t352.length co22) : Value).ownBlock ∧ some k_ ≠ ((.slice Ao23 t355.length co23) : Value).ownBlock) (.slice Ao13 t337.length co13) t337) ∧ Aside0 (Kd.R Kd.string 9 wc w.heap.size (fun k_ => some k_ ≠ ((.slice Ao13 t337.length co13) : Value).ownBlock ∧ some k_ ≠ ((.slice Ao22 t352.length co22) : Value).ownBlock ∧ some k_ ≠ ((.slice Ao23 t355.length co23) : Value).ownBlock) (.slice Ao14 t340.length co14) t340) ∧ Aside0 (Kd.R (Kd.int .i64) 3 wc w.heap.size (fun k_ => some k_ ≠ ((.slice Ao24 t358.length co24) : Value).ownBlock) (.slice Ao15 t343.length co15) t343) ∧ Aside0 (Kd.R Kd.string 9 wc w.heap.size (fun k_ => some k_ ≠ ((.slice Ao13 t337.length co13) : Value).ownBlock ∧ some k_ ≠ ((.slice Ao14 t340.length co14) : Value).ownBlock ∧ some k_ ≠ ((.slice Ao23 t355.length co23) : Value).ownBlock) (.slice Ao22 t352.length co22) t352) ∧ Aside0 (Kd.R Kd.string 9 wc w.heap.size (fun k_ => some k_ ≠ ((.slice Ao13 t337.length co13) : Value).ownBlock ∧ some k_ ≠ ((.slice Ao14 t340.length co14) : Value).ownBlock ∧ some k_ ≠ ((.slice Ao22 t352.length co22) : Value).ownBlock) (.slice Ao23 t355.length co23) t355) ∧ Aside0 (Kd.R (Kd.int .i64) 3 wc w.heap.size (fun k_ => some k_ ≠ ((.slice Ao15 t343.length co15) : Value).ownBlock) (.slice Ao24 t358.length co24) t358) ∧ Aside0 (wc.heap[gb347]? = some (.cells #[.bool t336, (.slice Ao13 t337.length co13), (.slice Ao14 t340.length co14), (.slice Ao15 t343.length co15)] 29 (0, 0))) ∧ Aside0 (wc.heap[gb362]? = some (.cells #[.bool t351, (.slice Ao22 t352.length co22), (.slice Ao23 t355.length co23), (.slice Ao24 t358.length co24)] 29 (0, 0))) ∧ Aside0 (Below w.heap.size w wc))
  case first =>
   have H := HC7.out
   clear HC7
   replace H := oB_ H
   obtain ⟨t363, A250, H⟩ := H
   replace H : (if t363 = true then (laws_FnExactGetNode.j0 k l0 t346 t348 t361 (t361 != t346) t336 t337 t340 t343 t351 t352 t355 t358) else (laws_FnExactGetNode.j0 k l0 t346 t348 t361 true t336 t337 t340 t343 t351 t352 t355 t358)) = some r := H
   have A25 := aM_ A250
   clear A250
   by_cases c26 : t363 = true
   ·subst c26
    have H1 : (laws_FnExactGetNode.j0 k l0 t346 t348 t361 (t361 != t346) t336 t337 t340 t343 t351 t352 t355 t358) = some r := by rw [if_pos rfl] at H; exact H
    clear H
    have H := H1
    clear H1
    have H' := aM_ H
    clear H
    have hnb27 := NB362_347.out
    have hnc27 := NB347_362.out
    have hcz28_0 : w19.cell? ⟨gb362, 0, none⟩ = some (.bool false) := (kC_ BK362.out 0).trans rfl
    have hcz28_1 : w19.cell? ⟨gb362, 1, none⟩ = some (.slice none 0 0) := (kC_ BK362.out 1).trans rfl
    have hcz28_2 : w19.cell? ⟨gb362, 2, none⟩ = some (.slice none 0 0) := (kC_ BK362.out 2).trans rfl
    have hcz28_3 : w19.cell? ⟨gb362, 3, none⟩ = some (.slice none 0 0) := (kC_ BK362.out 3).trans rfl
    have hfz28_0 := kF_ BK362.out 0
    have hfz28_1 := kF_ BK362.out 1
    have hfz28_2 := kF_ BK362.out 2
    have hfz28_3 := kF_ BK362.out 3
    have hcz29_0 : w19.cell? ⟨gb347, 0, none⟩ = some (.bool t336) := (kC_ BK347.out 0).trans rfl
    have hcz29_1 : w19.cell? ⟨gb347, 1, none⟩ = some (.slice Ao13 t337.length co13) := (kC_ BK347.out 1).trans rfl
    have hcz29_2 : w19.cell? ⟨gb347, 2, none⟩ = some (.slice Ao14 t340.length co14) := (kC_ BK347.out 2).trans rfl
    have hcz29_3 : w19.cell? ⟨gb347, 3, none⟩ = some (.slice Ao15 t343.length co15) := (kC_ BK347.out 3).trans rfl
    have hfz29_0 := kF_ BK347.out 0
    have hfz29_1 := kF_ BK347.out 1
    have hfz29_2 := kF_ BK347.out 2
    have hfz29_3 := kF_ BK347.out 3
    go_wp2_with (first | ((with_reducible refine gate_callee (f := 17) rfl ?_); refine goesL_ (some 31) rfl rfl Try.func17 (by kernel_rfl) rfl #[.agg #[.bool t351, .slice Ao22 t352.length co22, .slice Ao23 t355.length co23, .slice Ao24 t358.length co24], .agg #[.bool t336, .slice Ao13 t337.length co13, .slice Ao14 t340.length co14, .slice Ao15 t343.length co15]] rfl (by (try simp only [mA_, mC_, mN_]); first | done | rfl | (simp only [lD_, lT_]; rfl)) ?_; (with_reducible refine (laws_eqNode.calls k t351 _ _ t352 _ _ t355 _ _ t358 t336 _ _ t337 _ _ t340 _ _ t343 true _ ?side1 ?side2 ?side3 ?side4 ?side5 ?side6 ?side7 ?side8 ?side9 ?side10 ?side11 ?side12 A25.out).mono ?_); (case side1 => refine (Kd.R_reads' (e := 9) (base := w.heap.size) (ok := fun k_ => ((some k_ ≠ (.slice Ao23 t355.length co23 : Value).ownBlock ∧ some k_ ≠ (.slice Ao13 t337.length co13 : Value).ownBlock) ∧ some k_ ≠ (.slice Ao14 t340.length co14 : Value).ownBlock)) (n := t352.length) (c := co22) ?_).2.2; exact (by (with_reducible repeat (first | apply rA_ | apply rN_ | apply rD_)); exact (Kd.R_mono (Kd.R_far (p := ⟨gb362, 3, none⟩) (Kd.R_far (p := ⟨gb362, 2, none⟩) (Kd.R_far (p := ⟨gb362, 1, none⟩) (Kd.R_far (p := ⟨gb362, 0, none⟩) (Kd.R_types HO354.out BK362.out (by decide)) (fun _ hk => hk.2) (.bool t351)) (fun _ hk => hk.2) (.slice Ao22 t352.length co22)) (fun _ hk => hk.2) (.slice Ao23 t355.length co23)) (fun _ hk => hk.2) (.slice Ao24 t358.length co24)) (fun _ h_ => h_.1)))); (case side2 => exact (Kd.R_reads' HO354.out).2.1); (case side3 => refine (Kd.R_reads' (e := 9) (base := w.heap.size) (ok := fun k_ => ((some k_ ≠ (.slice Ao22 t352.length co22 : Value).ownBlock ∧ some k_ ≠ (.slice Ao13 t337.length co13 : Value).ownBlock) ∧ some k_ ≠ (.slice Ao14 t340.length co14 : Value).ownBlock)) (n := t355.length) (c := co23) ?_).2.2; exact (by (with_reducible repeat (first | apply rA_ | apply rN_ | apply rD_)); exact (Kd.R_mono (Kd.R_far (p := ⟨gb362, 3, none⟩) (Kd.R_far (p := ⟨gb362, 2, none⟩) (Kd.R_far (p := ⟨gb362, 1, none⟩) (Kd.R_far (p := ⟨gb362, 0, none⟩) (Kd.R_types HO357.out BK362.out (by decide)) (fun _ hk => hk.2) (.bool t351)) (fun _ hk => hk.2) (.slice Ao22 t352.length co22)) (fun _ hk => hk.2) (.slice Ao23 t355.length co23)) (fun _ hk => hk.2) (.slice Ao24 t358.length co24)) (fun _ h_ => h_.1)))); (case side4 => exact (Kd.R_reads' HO357.out).2.1); (case side5 => refine (Kd.R_reads' (e := 3) (base := w.heap.size) (ok := fun k_ => (True ∧ some k_ ≠ (.slice Ao15 t343.length co15 : Value).ownBlock)) (n := t358.length) (c := co24) ?_).2.2; exact (by (with_reducible repeat (first | apply rA_ | apply rN_ | apply rD_)); exact (Kd.R_mono (Kd.R_far (p := ⟨gb362, 3, none⟩) (Kd.R_far (p := ⟨gb362, 2, none⟩) (Kd.R_far (p := ⟨gb362, 1, none⟩) (Kd.R_far (p := ⟨gb362, 0, none⟩) (Kd.R_types HO360.out BK362.out (by decide)) (fun _ hk => hk.2) (.bool t351)) (fun _ hk => hk.2) (.slice Ao22 t352.length co22)) (fun _ hk => hk.2) (.slice Ao23 t355.length co23)) (fun _ hk => hk.2) (.slice Ao24 t358.length co24)) (fun _ h_ => h_.1)))); (case side6 => exact (Kd.R_reads' HO360.out).2.1); (case side7 => refine (Kd.R_reads' (e := 9) (base := w.heap.size) (ok := fun k_ => ((some k_ ≠ (.slice Ao14 t340.length co14 : Value).ownBlock ∧ some k_ ≠ (.slice Ao22 t352.length co22 : Value).ownBlock) ∧ some k_ ≠ (.slice Ao23 t355.length co23 : Value).ownBlock)) (n := t337.length) (c := co13) ?_).2.2; exact (by (with_reducible repeat (first | apply rA_ | apply rN_ | apply rD_)); exact (Kd.R_mono (Kd.R_far (p := ⟨gb362, 3, none⟩) (Kd.R_far (p := ⟨gb362, 2, none⟩) (Kd.R_far (p := ⟨gb362, 1, none⟩) (Kd.R_far (p := ⟨gb362, 0, none⟩) (Kd.R_types HO339.out BK362.out (by decide)) (fun _ hk => hk.2) (.bool t351)) (fun _ hk => hk.2) (.slice Ao22 t352.length co22)) (fun _ hk => hk.2) (.slice Ao23 t355.length co23)) (fun _ hk => hk.2) (.slice Ao24 t358.length co24)) (fun _ h_ => h_.1)))); (case side8 => exact (Kd.R_reads' HO339.out).2.1); (case side9 => refine (Kd.R_reads' (e := 9) (base := w.heap.size) (ok := fun k_ => ((some k_ ≠ (.slice Ao13 t337.length co13 : Value).ownBlock ∧ some k_ ≠ (.slice Ao22 t352.length co22 : Value).ownBlock) ∧ some k_ ≠ (.slice Ao23 t355.length co23 : Value).ownBlock)) (n := t340.length) (c := co14) ?_).2.2; exact (by (with_reducible repeat (first | apply rA_ | apply rN_ | apply rD_)); exact (Kd.R_mono (Kd.R_far (p := ⟨gb362, 3, none⟩) (Kd.R_far (p := ⟨gb362, 2, none⟩) (Kd.R_far (p := ⟨gb362, 1, none⟩) (Kd.R_far (p := ⟨gb362, 0, none⟩) (Kd.R_types HO342.out BK362.out (by decide)) (fun _ hk => hk.2) (.bool t351)) (fun _ hk => hk.2) (.slice Ao22 t352.length co22)) (fun _ hk => hk.2) (.slice Ao23 t355.length co23)) (fun _ hk => hk.2) (.slice Ao24 t358.length co24)) (fun _ h_ => h_.1)))); (case side10 => exact (Kd.R_reads' HO342.out).2.1); (case side11 => refine (Kd.R_reads' (e := 3) (base := w.heap.size) (ok := fun k_ => (True ∧ some k_ ≠ (.slice Ao24 t358.length co24 : Value).ownBlock)) (n := t343.length) (c := co15) ?_).2.2; exact (by (with_reducible repeat (first | apply rA_ | apply rN_ | apply rD_)); exact (Kd.R_mono (Kd.R_far (p := ⟨gb362, 3, none⟩) (Kd.R_far (p := ⟨gb362, 2, none⟩) (Kd.R_far (p := ⟨gb362, 1, none⟩) (Kd.R_far (p := ⟨gb362, 0, none⟩) (Kd.R_types HO345.out BK362.out (by decide)) (fun _ hk => hk.2) (.bool t351)) (fun _ hk => hk.2) (.slice Ao22 t352.length co22)) (fun _ hk => hk.2) (.slice Ao23 t355.length co23)) (fun _ hk => hk.2) (.slice Ao24 t358.length co24)) (fun _ h_ => h_.1)))); (case side12 => exact (Kd.R_reads' HO345.out).2.1); rintro e w30 ⟨rfl, hb⟩; refine ⟨_, rfl, ?_⟩; have n0_ := aM_ (Kd.R_below (by (with_reducible repeat (first | apply rA_ | apply rN_ | apply rD_)); exact (Kd.R_mono (Kd.R_far (p := ⟨gb362, 3, none⟩) (Kd.R_far (p := ⟨gb362, 2, none⟩) (Kd.R_far (p := ⟨gb362, 1, none⟩) (Kd.R_far (p := ⟨gb362, 0, none⟩) (Kd.R_types HO335.out BK362.out (by decide)) (fun _ hk => hk.2) (.bool t351)) (fun _ hk => hk.2) (.slice Ao22 t352.length co22)) (fun _ hk => hk.2) (.slice Ao23 t355.length co23)) (fun _ hk => hk.2) (.slice Ao24 t358.length co24)) (fun _ h_ => h_.1))) hb); have n1_ := aM_ (Kd.R_below (by (with_reducible repeat (first | apply rA_ | apply rN_ | apply rD_)); exact (Kd.R_mono (Kd.R_far (p := ⟨gb362, 3, none⟩) (Kd.R_far (p := ⟨gb362, 2, none⟩) (Kd.R_far (p := ⟨gb362, 1, none⟩) (Kd.R_far (p := ⟨gb362, 0, none⟩) (Kd.R_types HO339.out BK362.out (by decide)) (fun _ hk => hk.2) (.bool t351)) (fun _ hk => hk.2) (.slice Ao22 t352.length co22)) (fun _ hk => hk.2) (.slice Ao23 t355.length co23)) (fun _ hk => hk.2) (.slice Ao24 t358.length co24)) (fun _ h_ => h_.1))) hb); have n2_ := aM_ (Kd.R_below (by (with_reducible repeat (first | apply rA_ | apply rN_ | apply rD_)); exact (Kd.R_mono (Kd.R_far (p := ⟨gb362, 3, none⟩) (Kd.R_far (p := ⟨gb362, 2, none⟩) (Kd.R_far (p := ⟨gb362, 1, none⟩) (Kd.R_far (p := ⟨gb362, 0, none⟩) (Kd.R_types HO342.out BK362.out (by decide)) (fun _ hk => hk.2) (.bool t351)) (fun _ hk => hk.2) (.slice Ao22 t352.length co22)) (fun _ hk => hk.2) (.slice Ao23 t355.length co23)) (fun _ hk => hk.2) (.slice Ao24 t358.length co24)) (fun _ h_ => h_.1))) hb); have n3_ := aM_ (Kd.R_below (by (with_reducible repeat (first | apply rA_ | apply rN_ | apply rD_)); exact (Kd.R_mono (Kd.R_far (p := ⟨gb362, 3, none⟩) (Kd.R_far (p := ⟨gb362, 2, none⟩) (Kd.R_far (p := ⟨gb362, 1, none⟩) (Kd.R_far (p := ⟨gb362, 0, none⟩) (Kd.R_types HO345.out BK362.out (by decide)) (fun _ hk => hk.2) (.bool t351)) (fun _ hk => hk.2) (.slice Ao22 t352.length co22)) (fun _ hk => hk.2) (.slice Ao23 t355.length co23)) (fun _ hk => hk.2) (.slice Ao24 t358.length co24)) (fun _ h_ => h_.1))) hb); have n4_ := aM_ (Kd.R_below (by (with_reducible repeat (first | apply rA_ | apply rN_ | apply rD_)); exact (Kd.R_mono (Kd.R_far (p := ⟨gb362, 3, none⟩) (Kd.R_far (p := ⟨gb362, 2, none⟩) (Kd.R_far (p := ⟨gb362, 1, none⟩) (Kd.R_far (p := ⟨gb362, 0, none⟩) (Kd.R_types HO350.out BK362.out (by decide)) (fun _ hk => hk.2) (.bool t351)) (fun _ hk => hk.2) (.slice Ao22 t352.length co22)) (fun _ hk => hk.2) (.slice Ao23 t355.length co23)) (fun _ hk => hk.2) (.slice Ao24 t358.length co24)) (fun _ h_ => h_.1))) hb); have n5_ := aM_ (Kd.R_below (by (with_reducible repeat (first | apply rA_ | apply rN_ | apply rD_)); exact (Kd.R_mono (Kd.R_far (p := ⟨gb362, 3, none⟩) (Kd.R_far (p := ⟨gb362, 2, none⟩) (Kd.R_far (p := ⟨gb362, 1, none⟩) (Kd.R_far (p := ⟨gb362, 0, none⟩) (Kd.R_types HO354.out BK362.out (by decide)) (fun _ hk => hk.2) (.bool t351)) (fun _ hk => hk.2) (.slice Ao22 t352.length co22)) (fun _ hk => hk.2) (.slice Ao23 t355.length co23)) (fun _ hk => hk.2) (.slice Ao24 t358.length co24)) (fun _ h_ => h_.1))) hb); have n6_ := aM_ (Kd.R_below (by (with_reducible repeat (first | apply rA_ | apply rN_ | apply rD_)); exact (Kd.R_mono (Kd.R_far (p := ⟨gb362, 3, none⟩) (Kd.R_far (p := ⟨gb362, 2, none⟩) (Kd.R_far (p := ⟨gb362, 1, none⟩) (Kd.R_far (p := ⟨gb362, 0, none⟩) (Kd.R_types HO357.out BK362.out (by decide)) (fun _ hk => hk.2) (.bool t351)) (fun _ hk => hk.2) (.slice Ao22 t352.length co22)) (fun _ hk => hk.2) (.slice Ao23 t355.length co23)) (fun _ hk => hk.2) (.slice Ao24 t358.length co24)) (fun _ h_ => h_.1))) hb); have n7_ := aM_ (Kd.R_below (by (with_reducible repeat (first | apply rA_ | apply rN_ | apply rD_)); exact (Kd.R_mono (Kd.R_far (p := ⟨gb362, 3, none⟩) (Kd.R_far (p := ⟨gb362, 2, none⟩) (Kd.R_far (p := ⟨gb362, 1, none⟩) (Kd.R_far (p := ⟨gb362, 0, none⟩) (Kd.R_types HO360.out BK362.out (by decide)) (fun _ hk => hk.2) (.bool t351)) (fun _ hk => hk.2) (.slice Ao22 t352.length co22)) (fun _ hk => hk.2) (.slice Ao23 t355.length co23)) (fun _ hk => hk.2) (.slice Ao24 t358.length co24)) (fun _ h_ => h_.1))) hb); have n8_ := aM_ (blk_below (g := gb347) (o := .cells #[.bool t336, .slice Ao13 t337.length co13, .slice Ao14 t340.length co14, .slice Ao15 t343.length co15] 29 (0, 0)) (by (with_reducible repeat (first | refine kN_ ?_ _ | refine kD_ ?_ | refine kA_ ?_ _)); refine blk_far ?_ NB347_362.out _; (with_reducible repeat (first | refine kN_ ?_ _ | refine kD_ ?_ | refine kA_ ?_ _)); refine blk_far ?_ NB347_362.out _; (with_reducible repeat (first | refine kN_ ?_ _ | refine kD_ ?_ | refine kA_ ?_ _)); refine blk_far ?_ NB347_362.out _; (with_reducible repeat (first | refine kN_ ?_ _ | refine kD_ ?_ | refine kA_ ?_ _)); refine blk_far ?_ NB347_362.out _; (with_reducible repeat (first | refine kN_ ?_ _ | refine kD_ ?_ | refine kA_ ?_ _)); exact BK347.out) hb); have n9_ := aM_ (blk_below (g := gb362) (o := .cells #[.bool t351, .slice Ao22 t352.length co22, .slice Ao23 t355.length co23, .slice Ao24 t358.length co24] 29 (0, 0)) (by (with_reducible repeat (first | refine kN_ ?_ _ | refine kD_ ?_ | refine kA_ ?_ _)); refine kP_ (cs := #[.bool t351, .slice Ao22 t352.length co22, .slice Ao23 t355.length co23, .slice none 0 0]) ?_ 3 _ rfl; (with_reducible repeat (first | refine kN_ ?_ _ | refine kD_ ?_ | refine kA_ ?_ _)); refine kP_ (cs := #[.bool t351, .slice Ao22 t352.length co22, .slice none 0 0, .slice none 0 0]) ?_ 2 _ rfl; (with_reducible repeat (first | refine kN_ ?_ _ | refine kD_ ?_ | refine kA_ ?_ _)); refine kP_ (cs := #[.bool t351, .slice none 0 0, .slice none 0 0, .slice none 0 0]) ?_ 1 _ rfl; (with_reducible repeat (first | refine kN_ ?_ _ | refine kD_ ?_ | refine kA_ ?_ _)); refine kP_ (cs := #[.bool false, .slice none 0 0, .slice none 0 0, .slice none 0 0]) ?_ 0 _ rfl; (with_reducible repeat (first | refine kN_ ?_ _ | refine kD_ ?_ | refine kA_ ?_ _)); exact BK362.out) hb); have n10_ := aM_ (bT_ (by repeat (first | (with_reducible first | exact HB.out | apply bA_ | apply bN_ | apply bD_ | refine bE_ ?_ GE347.out | refine bE_ ?_ GE362.out) | exact HB.out)) hb); clear HO335; clear HO339; clear HO342; clear HO345; clear HO350; clear HO354; clear HO357; clear HO360; clear BK347; clear BK362; clear HB; have HO335 := n0_; have HO339 := n1_; have HO342 := n2_; have HO345 := n3_; have HO350 := n4_; have HO354 := n5_; have HO357 := n6_; have HO360 := n7_; have BK347 := n8_; have BK362 := n9_; have HB := n10_; clear n0_ n1_ n2_ n3_ n4_ n5_ n6_ n7_ n8_ n9_ n10_; (try clear hb); (try clear hb2); (try clear hk); (try clear hi)))
    (first | go_meet | (refine Met.intro ?_; go_step; (repeat apply Exists.intro); refine ⟨?rel, ?eq⟩; (case eq => (try simp only [c18b0]); (try simp only [c29b0]); (try simp only [c29b0]); rfl)))
    case rel => exact ⟨_, ((t361 != t346)), (by first | rfl | (simp; done) | (simp [*]; done)), H', ⟨by first | omega | exact Nat.le_refl _⟩, ⟨by (with_reducible repeat (first | apply rA_ | apply rN_ | apply rD_)); exact Kd.R_mono HO350.out (fun _ hk => trivial)⟩, ⟨by (with_reducible repeat (first | apply rA_ | apply rN_ | apply rD_)); exact Kd.R_mono HO339.out (fun _ hk => ⟨hk.1.1, ⟨hk.1.2, hk.2⟩⟩)⟩, ⟨by (with_reducible repeat (first | apply rA_ | apply rN_ | apply rD_)); exact Kd.R_mono HO342.out (fun _ hk => ⟨hk.1.1, ⟨hk.1.2, hk.2⟩⟩)⟩, ⟨by (with_reducible repeat (first | apply rA_ | apply rN_ | apply rD_)); exact Kd.R_mono HO345.out (fun _ hk => hk.2)⟩, ⟨by (with_reducible repeat (first | apply rA_ | apply rN_ | apply rD_)); exact Kd.R_mono HO354.out (fun _ hk => ⟨hk.1.2, ⟨hk.2, hk.1.1⟩⟩)⟩, ⟨by (with_reducible repeat (first | apply rA_ | apply rN_ | apply rD_)); exact Kd.R_mono HO357.out (fun _ hk => ⟨hk.1.2, ⟨hk.2, hk.1.1⟩⟩)⟩, ⟨by (with_reducible repeat (first | apply rA_ | apply rN_ | apply rD_)); exact Kd.R_mono HO360.out (fun _ hk => hk.2)⟩, ⟨by (with_reducible repeat (first | refine kN_ ?_ _ | refine kD_ ?_ | refine kA_ ?_ _)); exact BK347.out⟩, ⟨by (with_reducible repeat (first | refine kN_ ?_ _ | refine kD_ ?_ | refine kA_ ?_ _)); exact BK362.out⟩, ⟨by repeat (first | (with_reducible first | exact HB.out | apply bA_ | apply bN_ | apply bD_ | refine bE_ ?_ GE347.out | refine bE_ ?_ GE362.out) | exact HB.out)⟩⟩
   ·replace c26 := Bool.eq_false_iff.mpr c26
    subst c26
    have H1 : (laws_FnExactGetNode.j0 k l0 t346 t348 t361 true t336 t337 t340 t343 t351 t352 t355 t358) = some r := by rw [if_neg (show ¬ (false = true) by decide)] at H; exact H
    clear H
    have H := H1
    clear H1
    have H' := aM_ H
    clear H
    have hnb31 := NB362_347.out
    have hnc31 := NB347_362.out
    have hcz32_0 : w19.cell? ⟨gb362, 0, none⟩ = some (.bool false) := (kC_ BK362.out 0).trans rfl
    have hcz32_1 : w19.cell? ⟨gb362, 1, none⟩ = some (.slice none 0 0) := (kC_ BK362.out 1).trans rfl
    have hcz32_2 : w19.cell? ⟨gb362, 2, none⟩ = some (.slice none 0 0) := (kC_ BK362.out 2).trans rfl
    have hcz32_3 : w19.cell? ⟨gb362, 3, none⟩ = some (.slice none 0 0) := (kC_ BK362.out 3).trans rfl
    have hfz32_0 := kF_ BK362.out 0
    have hfz32_1 := kF_ BK362.out 1
    have hfz32_2 := kF_ BK362.out 2
    have hfz32_3 := kF_ BK362.out 3
    have hcz33_0 : w19.cell? ⟨gb347, 0, none⟩ = some (.bool t336) := (kC_ BK347.out 0).trans rfl
    have hcz33_1 : w19.cell? ⟨gb347, 1, none⟩ = some (.slice Ao13 t337.length co13) := (kC_ BK347.out 1).trans rfl
    have hcz33_2 : w19.cell? ⟨gb347, 2, none⟩ = some (.slice Ao14 t340.length co14) := (kC_ BK347.out 2).trans rfl
    have hcz33_3 : w19.cell? ⟨gb347, 3, none⟩ = some (.slice Ao15 t343.length co15) := (kC_ BK347.out 3).trans rfl
    have hfz33_0 := kF_ BK347.out 0
    have hfz33_1 := kF_ BK347.out 1
    have hfz33_2 := kF_ BK347.out 2
    have hfz33_3 := kF_ BK347.out 3
    go_wp2_with (first | ((with_reducible refine gate_callee (f := 17) rfl ?_); refine goesL_ (some 31) rfl rfl Try.func17 (by kernel_rfl) rfl #[.agg #[.bool t351, .slice Ao22 t352.length co22, .slice Ao23 t355.length co23, .slice Ao24 t358.length co24], .agg #[.bool t336, .slice Ao13 t337.length co13, .slice Ao14 t340.length co14, .slice Ao15 t343.length co15]] rfl (by (try simp only [mA_, mC_, mN_]); first | done | rfl | (simp only [lD_, lT_]; rfl)) ?_; (with_reducible refine (laws_eqNode.calls k t351 _ _ t352 _ _ t355 _ _ t358 t336 _ _ t337 _ _ t340 _ _ t343 false _ ?side1 ?side2 ?side3 ?side4 ?side5 ?side6 ?side7 ?side8 ?side9 ?side10 ?side11 ?side12 A25.out).mono ?_); (case side1 => refine (Kd.R_reads' (e := 9) (base := w.heap.size) (ok := fun k_ => ((some k_ ≠ (.slice Ao23 t355.length co23 : Value).ownBlock ∧ some k_ ≠ (.slice Ao13 t337.length co13 : Value).ownBlock) ∧ some k_ ≠ (.slice Ao14 t340.length co14 : Value).ownBlock)) (n := t352.length) (c := co22) ?_).2.2; exact (by (with_reducible repeat (first | apply rA_ | apply rN_ | apply rD_)); exact (Kd.R_mono (Kd.R_far (p := ⟨gb362, 3, none⟩) (Kd.R_far (p := ⟨gb362, 2, none⟩) (Kd.R_far (p := ⟨gb362, 1, none⟩) (Kd.R_far (p := ⟨gb362, 0, none⟩) (Kd.R_types HO354.out BK362.out (by decide)) (fun _ hk => hk.2) (.bool t351)) (fun _ hk => hk.2) (.slice Ao22 t352.length co22)) (fun _ hk => hk.2) (.slice Ao23 t355.length co23)) (fun _ hk => hk.2) (.slice Ao24 t358.length co24)) (fun _ h_ => h_.1)))); (case side2 => exact (Kd.R_reads' HO354.out).2.1); (case side3 => refine (Kd.R_reads' (e := 9) (base := w.heap.size) (ok := fun k_ => ((some k_ ≠ (.slice Ao22 t352.length co22 : Value).ownBlock ∧ some k_ ≠ (.slice Ao13 t337.length co13 : Value).ownBlock) ∧ some k_ ≠ (.slice Ao14 t340.length co14 : Value).ownBlock)) (n := t355.length) (c := co23) ?_).2.2; exact (by (with_reducible repeat (first | apply rA_ | apply rN_ | apply rD_)); exact (Kd.R_mono (Kd.R_far (p := ⟨gb362, 3, none⟩) (Kd.R_far (p := ⟨gb362, 2, none⟩) (Kd.R_far (p := ⟨gb362, 1, none⟩) (Kd.R_far (p := ⟨gb362, 0, none⟩) (Kd.R_types HO357.out BK362.out (by decide)) (fun _ hk => hk.2) (.bool t351)) (fun _ hk => hk.2) (.slice Ao22 t352.length co22)) (fun _ hk => hk.2) (.slice Ao23 t355.length co23)) (fun _ hk => hk.2) (.slice Ao24 t358.length co24)) (fun _ h_ => h_.1)))); (case side4 => exact (Kd.R_reads' HO357.out).2.1); (case side5 => refine (Kd.R_reads' (e := 3) (base := w.heap.size) (ok := fun k_ => (True ∧ some k_ ≠ (.slice Ao15 t343.length co15 : Value).ownBlock)) (n := t358.length) (c := co24) ?_).2.2; exact (by (with_reducible repeat (first | apply rA_ | apply rN_ | apply rD_)); exact (Kd.R_mono (Kd.R_far (p := ⟨gb362, 3, none⟩) (Kd.R_far (p := ⟨gb362, 2, none⟩) (Kd.R_far (p := ⟨gb362, 1, none⟩) (Kd.R_far (p := ⟨gb362, 0, none⟩) (Kd.R_types HO360.out BK362.out (by decide)) (fun _ hk => hk.2) (.bool t351)) (fun _ hk => hk.2) (.slice Ao22 t352.length co22)) (fun _ hk => hk.2) (.slice Ao23 t355.length co23)) (fun _ hk => hk.2) (.slice Ao24 t358.length co24)) (fun _ h_ => h_.1)))); (case side6 => exact (Kd.R_reads' HO360.out).2.1); (case side7 => refine (Kd.R_reads' (e := 9) (base := w.heap.size) (ok := fun k_ => ((some k_ ≠ (.slice Ao14 t340.length co14 : Value).ownBlock ∧ some k_ ≠ (.slice Ao22 t352.length co22 : Value).ownBlock) ∧ some k_ ≠ (.slice Ao23 t355.length co23 : Value).ownBlock)) (n := t337.length) (c := co13) ?_).2.2; exact (by (with_reducible repeat (first | apply rA_ | apply rN_ | apply rD_)); exact (Kd.R_mono (Kd.R_far (p := ⟨gb362, 3, none⟩) (Kd.R_far (p := ⟨gb362, 2, none⟩) (Kd.R_far (p := ⟨gb362, 1, none⟩) (Kd.R_far (p := ⟨gb362, 0, none⟩) (Kd.R_types HO339.out BK362.out (by decide)) (fun _ hk => hk.2) (.bool t351)) (fun _ hk => hk.2) (.slice Ao22 t352.length co22)) (fun _ hk => hk.2) (.slice Ao23 t355.length co23)) (fun _ hk => hk.2) (.slice Ao24 t358.length co24)) (fun _ h_ => h_.1)))); (case side8 => exact (Kd.R_reads' HO339.out).2.1); (case side9 => refine (Kd.R_reads' (e := 9) (base := w.heap.size) (ok := fun k_ => ((some k_ ≠ (.slice Ao13 t337.length co13 : Value).ownBlock ∧ some k_ ≠ (.slice Ao22 t352.length co22 : Value).ownBlock) ∧ some k_ ≠ (.slice Ao23 t355.length co23 : Value).ownBlock)) (n := t340.length) (c := co14) ?_).2.2; exact (by (with_reducible repeat (first | apply rA_ | apply rN_ | apply rD_)); exact (Kd.R_mono (Kd.R_far (p := ⟨gb362, 3, none⟩) (Kd.R_far (p := ⟨gb362, 2, none⟩) (Kd.R_far (p := ⟨gb362, 1, none⟩) (Kd.R_far (p := ⟨gb362, 0, none⟩) (Kd.R_types HO342.out BK362.out (by decide)) (fun _ hk => hk.2) (.bool t351)) (fun _ hk => hk.2) (.slice Ao22 t352.length co22)) (fun _ hk => hk.2) (.slice Ao23 t355.length co23)) (fun _ hk => hk.2) (.slice Ao24 t358.length co24)) (fun _ h_ => h_.1)))); (case side10 => exact (Kd.R_reads' HO342.out).2.1); (case side11 => refine (Kd.R_reads' (e := 3) (base := w.heap.size) (ok := fun k_ => (True ∧ some k_ ≠ (.slice Ao24 t358.length co24 : Value).ownBlock)) (n := t343.length) (c := co15) ?_).2.2; exact (by (with_reducible repeat (first | apply rA_ | apply rN_ | apply rD_)); exact (Kd.R_mono (Kd.R_far (p := ⟨gb362, 3, none⟩) (Kd.R_far (p := ⟨gb362, 2, none⟩) (Kd.R_far (p := ⟨gb362, 1, none⟩) (Kd.R_far (p := ⟨gb362, 0, none⟩) (Kd.R_types HO345.out BK362.out (by decide)) (fun _ hk => hk.2) (.bool t351)) (fun _ hk => hk.2) (.slice Ao22 t352.length co22)) (fun _ hk => hk.2) (.slice Ao23 t355.length co23)) (fun _ hk => hk.2) (.slice Ao24 t358.length co24)) (fun _ h_ => h_.1)))); (case side12 => exact (Kd.R_reads' HO345.out).2.1); rintro e w34 ⟨rfl, hb⟩; refine ⟨_, rfl, ?_⟩; have n0_ := aM_ (Kd.R_below (by (with_reducible repeat (first | apply rA_ | apply rN_ | apply rD_)); exact (Kd.R_mono (Kd.R_far (p := ⟨gb362, 3, none⟩) (Kd.R_far (p := ⟨gb362, 2, none⟩) (Kd.R_far (p := ⟨gb362, 1, none⟩) (Kd.R_far (p := ⟨gb362, 0, none⟩) (Kd.R_types HO335.out BK362.out (by decide)) (fun _ hk => hk.2) (.bool t351)) (fun _ hk => hk.2) (.slice Ao22 t352.length co22)) (fun _ hk => hk.2) (.slice Ao23 t355.length co23)) (fun _ hk => hk.2) (.slice Ao24 t358.length co24)) (fun _ h_ => h_.1))) hb); have n1_ := aM_ (Kd.R_below (by (with_reducible repeat (first | apply rA_ | apply rN_ | apply rD_)); exact (Kd.R_mono (Kd.R_far (p := ⟨gb362, 3, none⟩) (Kd.R_far (p := ⟨gb362, 2, none⟩) (Kd.R_far (p := ⟨gb362, 1, none⟩) (Kd.R_far (p := ⟨gb362, 0, none⟩) (Kd.R_types HO339.out BK362.out (by decide)) (fun _ hk => hk.2) (.bool t351)) (fun _ hk => hk.2) (.slice Ao22 t352.length co22)) (fun _ hk => hk.2) (.slice Ao23 t355.length co23)) (fun _ hk => hk.2) (.slice Ao24 t358.length co24)) (fun _ h_ => h_.1))) hb); have n2_ := aM_ (Kd.R_below (by (with_reducible repeat (first | apply rA_ | apply rN_ | apply rD_)); exact (Kd.R_mono (Kd.R_far (p := ⟨gb362, 3, none⟩) (Kd.R_far (p := ⟨gb362, 2, none⟩) (Kd.R_far (p := ⟨gb362, 1, none⟩) (Kd.R_far (p := ⟨gb362, 0, none⟩) (Kd.R_types HO342.out BK362.out (by decide)) (fun _ hk => hk.2) (.bool t351)) (fun _ hk => hk.2) (.slice Ao22 t352.length co22)) (fun _ hk => hk.2) (.slice Ao23 t355.length co23)) (fun _ hk => hk.2) (.slice Ao24 t358.length co24)) (fun _ h_ => h_.1))) hb); have n3_ := aM_ (Kd.R_below (by (with_reducible repeat (first | apply rA_ | apply rN_ | apply rD_)); exact (Kd.R_mono (Kd.R_far (p := ⟨gb362, 3, none⟩) (Kd.R_far (p := ⟨gb362, 2, none⟩) (Kd.R_far (p := ⟨gb362, 1, none⟩) (Kd.R_far (p := ⟨gb362, 0, none⟩) (Kd.R_types HO345.out BK362.out (by decide)) (fun _ hk => hk.2) (.bool t351)) (fun _ hk => hk.2) (.slice Ao22 t352.length co22)) (fun _ hk => hk.2) (.slice Ao23 t355.length co23)) (fun _ hk => hk.2) (.slice Ao24 t358.length co24)) (fun _ h_ => h_.1))) hb); have n4_ := aM_ (Kd.R_below (by (with_reducible repeat (first | apply rA_ | apply rN_ | apply rD_)); exact (Kd.R_mono (Kd.R_far (p := ⟨gb362, 3, none⟩) (Kd.R_far (p := ⟨gb362, 2, none⟩) (Kd.R_far (p := ⟨gb362, 1, none⟩) (Kd.R_far (p := ⟨gb362, 0, none⟩) (Kd.R_types HO350.out BK362.out (by decide)) (fun _ hk => hk.2) (.bool t351)) (fun _ hk => hk.2) (.slice Ao22 t352.length co22)) (fun _ hk => hk.2) (.slice Ao23 t355.length co23)) (fun _ hk => hk.2) (.slice Ao24 t358.length co24)) (fun _ h_ => h_.1))) hb); have n5_ := aM_ (Kd.R_below (by (with_reducible repeat (first | apply rA_ | apply rN_ | apply rD_)); exact (Kd.R_mono (Kd.R_far (p := ⟨gb362, 3, none⟩) (Kd.R_far (p := ⟨gb362, 2, none⟩) (Kd.R_far (p := ⟨gb362, 1, none⟩) (Kd.R_far (p := ⟨gb362, 0, none⟩) (Kd.R_types HO354.out BK362.out (by decide)) (fun _ hk => hk.2) (.bool t351)) (fun _ hk => hk.2) (.slice Ao22 t352.length co22)) (fun _ hk => hk.2) (.slice Ao23 t355.length co23)) (fun _ hk => hk.2) (.slice Ao24 t358.length co24)) (fun _ h_ => h_.1))) hb); have n6_ := aM_ (Kd.R_below (by (with_reducible repeat (first | apply rA_ | apply rN_ | apply rD_)); exact (Kd.R_mono (Kd.R_far (p := ⟨gb362, 3, none⟩) (Kd.R_far (p := ⟨gb362, 2, none⟩) (Kd.R_far (p := ⟨gb362, 1, none⟩) (Kd.R_far (p := ⟨gb362, 0, none⟩) (Kd.R_types HO357.out BK362.out (by decide)) (fun _ hk => hk.2) (.bool t351)) (fun _ hk => hk.2) (.slice Ao22 t352.length co22)) (fun _ hk => hk.2) (.slice Ao23 t355.length co23)) (fun _ hk => hk.2) (.slice Ao24 t358.length co24)) (fun _ h_ => h_.1))) hb); have n7_ := aM_ (Kd.R_below (by (with_reducible repeat (first | apply rA_ | apply rN_ | apply rD_)); exact (Kd.R_mono (Kd.R_far (p := ⟨gb362, 3, none⟩) (Kd.R_far (p := ⟨gb362, 2, none⟩) (Kd.R_far (p := ⟨gb362, 1, none⟩) (Kd.R_far (p := ⟨gb362, 0, none⟩) (Kd.R_types HO360.out BK362.out (by decide)) (fun _ hk => hk.2) (.bool t351)) (fun _ hk => hk.2) (.slice Ao22 t352.length co22)) (fun _ hk => hk.2) (.slice Ao23 t355.length co23)) (fun _ hk => hk.2) (.slice Ao24 t358.length co24)) (fun _ h_ => h_.1))) hb); have n8_ := aM_ (blk_below (g := gb347) (o := .cells #[.bool t336, .slice Ao13 t337.length co13, .slice Ao14 t340.length co14, .slice Ao15 t343.length co15] 29 (0, 0)) (by (with_reducible repeat (first | refine kN_ ?_ _ | refine kD_ ?_ | refine kA_ ?_ _)); refine blk_far ?_ NB347_362.out _; (with_reducible repeat (first | refine kN_ ?_ _ | refine kD_ ?_ | refine kA_ ?_ _)); refine blk_far ?_ NB347_362.out _; (with_reducible repeat (first | refine kN_ ?_ _ | refine kD_ ?_ | refine kA_ ?_ _)); refine blk_far ?_ NB347_362.out _; (with_reducible repeat (first | refine kN_ ?_ _ | refine kD_ ?_ | refine kA_ ?_ _)); refine blk_far ?_ NB347_362.out _; (with_reducible repeat (first | refine kN_ ?_ _ | refine kD_ ?_ | refine kA_ ?_ _)); exact BK347.out) hb); have n9_ := aM_ (blk_below (g := gb362) (o := .cells #[.bool t351, .slice Ao22 t352.length co22, .slice Ao23 t355.length co23, .slice Ao24 t358.length co24] 29 (0, 0)) (by (with_reducible repeat (first | refine kN_ ?_ _ | refine kD_ ?_ | refine kA_ ?_ _)); refine kP_ (cs := #[.bool t351, .slice Ao22 t352.length co22, .slice Ao23 t355.length co23, .slice none 0 0]) ?_ 3 _ rfl; (with_reducible repeat (first | refine kN_ ?_ _ | refine kD_ ?_ | refine kA_ ?_ _)); refine kP_ (cs := #[.bool t351, .slice Ao22 t352.length co22, .slice none 0 0, .slice none 0 0]) ?_ 2 _ rfl; (with_reducible repeat (first | refine kN_ ?_ _ | refine kD_ ?_ | refine kA_ ?_ _)); refine kP_ (cs := #[.bool t351, .slice none 0 0, .slice none 0 0, .slice none 0 0]) ?_ 1 _ rfl; (with_reducible repeat (first | refine kN_ ?_ _ | refine kD_ ?_ | refine kA_ ?_ _)); refine kP_ (cs := #[.bool false, .slice none 0 0, .slice none 0 0, .slice none 0 0]) ?_ 0 _ rfl; (with_reducible repeat (first | refine kN_ ?_ _ | refine kD_ ?_ | refine kA_ ?_ _)); exact BK362.out) hb); have n10_ := aM_ (bT_ (by repeat (first | (with_reducible first | exact HB.out | apply bA_ | apply bN_ | apply bD_ | refine bE_ ?_ GE347.out | refine bE_ ?_ GE362.out) | exact HB.out)) hb); clear HO335; clear HO339; clear HO342; clear HO345; clear HO350; clear HO354; clear HO357; clear HO360; clear BK347; clear BK362; clear HB; have HO335 := n0_; have HO339 := n1_; have HO342 := n2_; have HO345 := n3_; have HO350 := n4_; have HO354 := n5_; have HO357 := n6_; have HO360 := n7_; have BK347 := n8_; have BK362 := n9_; have HB := n10_; clear n0_ n1_ n2_ n3_ n4_ n5_ n6_ n7_ n8_ n9_ n10_; (try clear hb); (try clear hb2); (try clear hk); (try clear hi)))
    (first | go_meet | (refine Met.intro ?_; go_step; (repeat apply Exists.intro); refine ⟨?rel, ?eq⟩; (case eq => (try simp only [c18b0]); (try simp only [c29b0]); (try simp only [c29b0]); rfl)))
    case rel => exact ⟨_, (true), (by first | rfl | (simp; done) | (simp [*]; done)), H', ⟨by first | omega | exact Nat.le_refl _⟩, ⟨by (with_reducible repeat (first | apply rA_ | apply rN_ | apply rD_)); exact Kd.R_mono HO350.out (fun _ hk => trivial)⟩, ⟨by (with_reducible repeat (first | apply rA_ | apply rN_ | apply rD_)); exact Kd.R_mono HO339.out (fun _ hk => ⟨hk.1.1, ⟨hk.1.2, hk.2⟩⟩)⟩, ⟨by (with_reducible repeat (first | apply rA_ | apply rN_ | apply rD_)); exact Kd.R_mono HO342.out (fun _ hk => ⟨hk.1.1, ⟨hk.1.2, hk.2⟩⟩)⟩, ⟨by (with_reducible repeat (first | apply rA_ | apply rN_ | apply rD_)); exact Kd.R_mono HO345.out (fun _ hk => hk.2)⟩, ⟨by (with_reducible repeat (first | apply rA_ | apply rN_ | apply rD_)); exact Kd.R_mono HO354.out (fun _ hk => ⟨hk.1.2, ⟨hk.2, hk.1.1⟩⟩)⟩, ⟨by (with_reducible repeat (first | apply rA_ | apply rN_ | apply rD_)); exact Kd.R_mono HO357.out (fun _ hk => ⟨hk.1.2, ⟨hk.2, hk.1.1⟩⟩)⟩, ⟨by (with_reducible repeat (first | apply rA_ | apply rN_ | apply rD_)); exact Kd.R_mono HO360.out (fun _ hk => hk.2)⟩, ⟨by (with_reducible repeat (first | refine kN_ ?_ _ | refine kD_ ?_ | refine kA_ ?_ _)); exact BK347.out⟩, ⟨by (with_reducible repeat (first | refine kN_ ?_ _ | refine kD_ ?_ | refine kA_ ?_ _)); exact BK362.out⟩, ⟨by repeat (first | (with_reducible first | exact HB.out | apply bA_ | apply bN_ | apply bD_ | refine bE_ ?_ GE347.out | refine bE_ ?_ GE362.out) | exact HB.out)⟩⟩
  case rest =>
   clear HC7
   try clear c1
   try clear c2
   try clear c2b0
   try clear c2b1
   try clear p2
   try clear c3
   try clear c4
   try clear c17
   try clear c18
   try clear c18b0
   try clear c20
   try clear c21
   try clear c22
   try clear c23
   try clear c26
   try clear c27
   try clear c29
   try clear c29b0
   try clear c31
   try clear hcz12_0
   try clear hcz12_1
   try clear hcz12_2
   try clear hcz12_3
   try clear hcz21_0
   try clear hcz21_1
   try clear hcz21_2
   try clear hcz21_3
   try clear hcz28_0
   try clear hcz28_1
   try clear hcz28_2
   try clear hcz28_3
   try clear hcz29_0
   try clear hcz29_1
   try clear hcz29_2
   try clear hcz29_3
   try clear hcz32_0
   try clear hcz32_1
   try clear hcz32_2
   try clear hcz32_3
   try clear hcz33_0
   try clear hcz33_1
   try clear hcz33_2
   try clear hcz33_3
   try clear hfz12_0
   try clear hfz12_1
   try clear hfz12_2
   try clear hfz12_3
   try clear hfz21_0
   try clear hfz21_1
   try clear hfz21_2
   try clear hfz21_3
   try clear hfz28_0
   try clear hfz28_1
   try clear hfz28_2
   try clear hfz28_3
   try clear hfz29_0
   try clear hfz29_1
   try clear hfz29_2
   try clear hfz29_3
   try clear hfz32_0
   try clear hfz32_1
   try clear hfz32_2
   try clear hfz32_3
   try clear hfz33_0
   try clear hfz33_1
   try clear hfz33_2
   try clear hfz33_3
   obtain ⟨kq, x37_6, rfl, HA, HJ6, HO_5, HO_348001, HO_348002, HO_348003, HO_363001, HO_363002, HO_363003, BK347, BK362, HB⟩ := hcut
   cases kq with
   | zero => exact absurd HA.out (by simp [laws_FnExactGetNode.j0])
   | succ kj6 =>
    have H := HA.out
    clear HA
    simp only [laws_FnExactGetNode.j0] at H
    by_cases c35 : x37_6 = true
    ·subst c35
     have H1 : (some false) = some r := by rw [if_pos rfl] at H; exact H
     clear H
     have H := H1
     clear H1
     exact absurd (H.trans (congrArg some hr_.out)) (by simp)
    ·replace c35 := Bool.eq_false_iff.mpr c35
     subst c35
     have H1 : ((laws_toByteS.f kj6 l0).bind fun t364 => ((laws_eqByteS.f kj6 t348 t364).bind fun t367 => (if t367 = true then ((laws_markByteS.f kj6 t348 1).bind fun bt368 => (if bt368.1 < 0 then (laws_FnExactGetNode.j1 kj6 l0 t346 true t336 t337 t340 t343 t351 t352 t355 t358) else ((laws_eqNode.f kj6 t351 t352 t355 t358 t336 t337 t340 t343).bind fun t370 => (if t370 = true then (laws_FnExactGetNode.j1 kj6 l0 t346 (t361 != t346) t336 t337 t340 t343 t351 t352 t355 t358) else (laws_FnExactGetNode.j1 kj6 l0 t346 true t336 t337 t340 t343 t351 t352 t355 t358))))) else (some false)))) = some r := by rw [if_neg (show ¬ (false = true) by decide)] at H; exact H
     clear H
     have H := H1
     clear H1
     replace H := oB_ H
     obtain ⟨t364, A360, H⟩ := H
     replace H : ((laws_eqByteS.f kj6 t348 t364).bind fun t367 => (if t367 = true then ((laws_markByteS.f kj6 t348 1).bind fun bt368 => (if bt368.1 < 0 then (laws_FnExactGetNode.j1 kj6 l0 t346 true t336 t337 t340 t343 t351 t352 t355 t358) else ((laws_eqNode.f kj6 t351 t352 t355 t358 t336 t337 t340 t343).bind fun t370 => (if t370 = true then (laws_FnExactGetNode.j1 kj6 l0 t346 (t361 != t346) t336 t337 t340 t343 t351 t352 t355 t358) else (laws_FnExactGetNode.j1 kj6 l0 t346 true t336 t337 t340 t343 t351 t352 t355 t358))))) else (some false))) = some r := H
     have A36 := aM_ A360
     clear A360
     replace H := oB_ H
     obtain ⟨t367, A370, H⟩ := H
     replace H : (if t367 = true then ((laws_markByteS.f kj6 t348 1).bind fun bt368 => (if bt368.1 < 0 then (laws_FnExactGetNode.j1 kj6 l0 t346 true t336 t337 t340 t343 t351 t352 t355 t358) else ((laws_eqNode.f kj6 t351 t352 t355 t358 t336 t337 t340 t343).bind fun t370 => (if t370 = true then (laws_FnExactGetNode.j1 kj6 l0 t346 (t361 != t346) t336 t337 t340 t343 t351 t352 t355 t358) else (laws_FnExactGetNode.j1 kj6 l0 t346 true t336 t337 t340 t343 t351 t352 t355 t358))))) else (some false)) = some r := H
     have A37 := aM_ A370
     clear A370
     by_cases c38 : t367 = true
     ·subst c38
      have H1 : ((laws_markByteS.f kj6 t348 1).bind fun bt368 => (if bt368.1 < 0 then (laws_FnExactGetNode.j1 kj6 l0 t346 true t336 t337 t340 t343 t351 t352 t355 t358) else ((laws_eqNode.f kj6 t351 t352 t355 t358 t336 t337 t340 t343).bind fun t370 => (if t370 = true then (laws_FnExactGetNode.j1 kj6 l0 t346 (t361 != t346) t336 t337 t340 t343 t351 t352 t355 t358) else (laws_FnExactGetNode.j1 kj6 l0 t346 true t336 t337 t340 t343 t351 t352 t355 t358))))) = some r := by rw [if_pos rfl] at H; exact H
      clear H
      have H := H1
      clear H1
      replace H := oB_ H
      obtain ⟨⟨t368, t369⟩, A390, H⟩ := H
      replace H : (if t368 < 0 then (laws_FnExactGetNode.j1 kj6 l0 t346 true t336 t337 t340 t343 t351 t352 t355 t358) else ((laws_eqNode.f kj6 t351 t352 t355 t358 t336 t337 t340 t343).bind fun t370 => (if t370 = true then (laws_FnExactGetNode.j1 kj6 l0 t346 (t361 != t346) t336 t337 t340 t343 t351 t352 t355 t358) else (laws_FnExactGetNode.j1 kj6 l0 t346 true t336 t337 t340 t343 t351 t352 t355 t358)))) = some r := H
      have A39 := aM_ A390
      clear A390
      have HC40 := aM_ H
      clear H
      go_upto_region 12 with (first | ((with_reducible refine gate_callee (f := 22) rfl ?_); refine goesL_ (some 40) rfl rfl Try.func22 (by kernel_rfl) rfl #[.slice A0 l0.length c0] rfl (by (try simp only [mA_, mC_, mN_]); first | done | rfl | (simp only [lD_, lT_]; rfl)) ?_; (with_reducible refine (laws_toByteS.calls kj6 _ _ l0 t364 _ ?side1 ?side2 A36.out).mono ?_); (case side1 => repeat (first | exact (Kd.C_below HR0.out HB.out) | (with_reducible refine cA_ ?_ _) | (with_reducible refine cN_ ?_ _) | (with_reducible refine cD_ ?_))); (case side2 => exact HC0.out); rintro e w41 ⟨v365, rfl, ho0, hb⟩; refine ⟨_, rfl, ?_⟩; have n0_ := aM_ (Kd.R_elder' (by (with_reducible repeat (first | apply rA_ | apply rN_ | apply rD_)); exact HO_5.out) (Kd.R_base ho0) hb); have n1_ := aM_ (Kd.R_below (by (with_reducible repeat (first | apply rA_ | apply rN_ | apply rD_)); exact HO_348001.out) hb); have n2_ := aM_ (Kd.R_below (by (with_reducible repeat (first | apply rA_ | apply rN_ | apply rD_)); exact HO_348002.out) hb); have n3_ := aM_ (Kd.R_below (by (with_reducible repeat (first | apply rA_ | apply rN_ | apply rD_)); exact HO_348003.out) hb); have n4_ := aM_ (Kd.R_below (by (with_reducible repeat (first | apply rA_ | apply rN_ | apply rD_)); exact HO_363001.out) hb); have n5_ := aM_ (Kd.R_below (by (with_reducible repeat (first | apply rA_ | apply rN_ | apply rD_)); exact HO_363002.out) hb); have n6_ := aM_ (Kd.R_below (by (with_reducible repeat (first | apply rA_ | apply rN_ | apply rD_)); exact HO_363003.out) hb); have n7_ := aM_ (Kd.R_lower (Kd.R_new' ho0 (Kd.R_lt (by (with_reducible repeat (first | apply rA_ | apply rN_ | apply rD_)); exact HO_5.out))) (bS_ (by repeat (first | (with_reducible first | exact HB.out | apply bA_ | apply bN_ | apply bD_ | refine bE_ ?_ GE347.out | refine bE_ ?_ GE362.out) | exact HB.out)))); have n8_ := aM_ (blk_below (g := gb347) (o := .cells #[.bool t336, .slice Ao13 t337.length co13, .slice Ao14 t340.length co14, .slice Ao15 t343.length co15] 29 (0, 0)) (by (with_reducible repeat (first | refine kN_ ?_ _ | refine kD_ ?_ | refine kA_ ?_ _)); exact BK347.out) hb); have n9_ := aM_ (blk_below (g := gb362) (o := .cells #[.bool t351, .slice Ao22 t352.length co22, .slice Ao23 t355.length co23, .slice Ao24 t358.length co24] 29 (0, 0)) (by (with_reducible repeat (first | refine kN_ ?_ _ | refine kD_ ?_ | refine kA_ ?_ _)); exact BK362.out) hb); have n10_ := aM_ (bT_ (by repeat (first | (with_reducible first | exact HB.out | apply bA_ | apply bN_ | apply bD_ | refine bE_ ?_ GE347.out | refine bE_ ?_ GE362.out) | exact HB.out)) hb); clear HO_5; clear HO_348001; clear HO_348002; clear HO_348003; clear HO_363001; clear HO_363002; clear HO_363003; clear BK347; clear BK362; clear HB; have HO_5 := n0_; have HO_348001 := n1_; have HO_348002 := n2_; have HO_348003 := n3_; have HO_363001 := n4_; have HO_363002 := n5_; have HO_363003 := n6_; have HO366 := n7_; have BK347 := n8_; have BK362 := n9_; have HB := n10_; clear n0_ n1_ n2_ n3_ n4_ n5_ n6_ n7_ n8_ n9_ n10_; (try clear hb); (try clear hb2); (try clear hk); (try clear hi); (try clear ho0); obtain ⟨Ao42, co42, eo42⟩ := Kd.R_slice HO366.out; subst eo42) | ((with_reducible refine gate_callee (f := 16) rfl ?_); refine goesL_ (some 41) rfl rfl Try.func16 (by kernel_rfl) rfl #[.slice Ao17 t348.length co17, .slice Ao42 t364.length co42] rfl (by (try simp only [mA_, mC_, mN_]); first | done | rfl | (simp only [lD_, lT_]; rfl)) ?_; (with_reducible refine (laws_eqByteS.calls kj6 _ _ t348 _ _ t364 true _ ?side1 ?side2 ?side3 ?side4 A37.out).mono ?_); (case side1 => repeat (first | exact (Kd.R_reads' HO_5.out).2.2 | (with_reducible refine cA_ ?_ _) | (with_reducible refine cN_ ?_ _) | (with_reducible refine cD_ ?_))); (case side2 => exact (Kd.R_reads' HO_5.out).2.1); (case side3 => repeat (first | exact (Kd.R_reads' HO366.out).2.2 | (with_reducible refine cA_ ?_ _) | (with_reducible refine cN_ ?_ _) | (with_reducible refine cD_ ?_))); (case side4 => exact (Kd.R_reads' HO366.out).2.1); rintro e w' ⟨rfl, ⟨nd, rfl⟩⟩; refine ⟨_, rfl, ?_⟩) | ((with_reducible refine gate_callee (f := 19) rfl ?_); refine goesL_ (some 45) rfl rfl Try.func19 (by kernel_rfl) rfl #[.slice Ao17 t348.length co17, .int .i64 1] rfl (by (try simp only [mA_, mC_, mN_]); first | done | rfl | (simp only [lD_, lT_]; rfl)) ?_; (with_reducible refine (laws_markByteS.calls kj6 (fun k_ => some k_ = (.slice Ao17 t348.length co17 : Value).ownBlock) (.slice Ao17 t348.length co17) t348 1 t368 t369 w _ ?side1 ?side2 A39.out).mono ?_); (case side1 => repeat (first | (with_reducible first | exact HB.out | apply bA_ | apply bN_ | apply bD_ | refine bE_ ?_ GE347.out | refine bE_ ?_ GE362.out) | exact HB.out)); (case side2 => exact Kd.R_tight rfl HO_5.out); rintro e w43 ⟨rfl, hy0, hb, hkp⟩; refine ⟨_, rfl, ?_⟩; have n0_ := aM_ (Kd.R_reok rfl hy0 (fun k_ e_ => HO_5.out.1 k_ e_)); have n1_ := aM_ (Kd.R_mono (ok' := fun k_ => some k_ ≠ (.slice Ao14 t340.length co14 : Value).ownBlock ∧ some k_ ≠ (.slice Ao22 t352.length co22 : Value).ownBlock ∧ some k_ ≠ (.slice Ao23 t355.length co23 : Value).ownBlock) (Kd.R_keptB ((Kd.R_apart' HO_348001.out (Kd.R_typed HO_5.out) (by decide))) hkp (fun k_ hk_ hs_ => (hk_.2) hs_)) (fun k_ hk_ => ⟨hk_.1.1.1, hk_.1.1.2.1, hk_.1.1.2.2⟩)); have n2_ := aM_ (Kd.R_mono (ok' := fun k_ => some k_ ≠ (.slice Ao13 t337.length co13 : Value).ownBlock ∧ some k_ ≠ (.slice Ao22 t352.length co22 : Value).ownBlock ∧ some k_ ≠ (.slice Ao23 t355.length co23 : Value).ownBlock) (Kd.R_keptB ((Kd.R_apart' HO_348002.out (Kd.R_typed HO_5.out) (by decide))) hkp (fun k_ hk_ hs_ => (hk_.2) hs_)) (fun k_ hk_ => ⟨hk_.1.1.1, hk_.1.1.2.1, hk_.1.1.2.2⟩)); have n3_ := aM_ (Kd.R_mono (ok' := fun k_ => some k_ ≠ (.slice Ao24 t358.length co24 : Value).ownBlock) (Kd.R_keptB ((Kd.R_apart' HO_348003.out (Kd.R_typed HO_5.out) (by decide))) hkp (fun k_ hk_ hs_ => (hk_.2) hs_)) (fun k_ hk_ => hk_.1.1)); have n4_ := aM_ (Kd.R_mono (ok' := fun k_ => some k_ ≠ (.slice Ao13 t337.length co13 : Value).ownBlock ∧ some k_ ≠ (.slice Ao14 t340.length co14 : Value).ownBlock ∧ some k_ ≠ (.slice Ao23 t355.length co23 : Value).ownBlock) (Kd.R_keptB ((Kd.R_apart' HO_363001.out (Kd.R_typed HO_5.out) (by decide))) hkp (fun k_ hk_ hs_ => (hk_.2) hs_)) (fun k_ hk_ => ⟨hk_.1.1.1, hk_.1.1.2.1, hk_.1.1.2.2⟩)); have n5_ := aM_ (Kd.R_mono (ok' := fun k_ => some k_ ≠ (.slice Ao13 t337.length co13 : Value).ownBlock ∧ some k_ ≠ (.slice Ao14 t340.length co14 : Value).ownBlock ∧ some k_ ≠ (.slice Ao22 t352.length co22 : Value).ownBlock) (Kd.R_keptB ((Kd.R_apart' HO_363002.out (Kd.R_typed HO_5.out) (by decide))) hkp (fun k_ hk_ hs_ => (hk_.2) hs_)) (fun k_ hk_ => ⟨hk_.1.1.1, hk_.1.1.2.1, hk_.1.1.2.2⟩)); have n6_ := aM_ (Kd.R_mono (ok' := fun k_ => some k_ ≠ (.slice Ao15 t343.length co15 : Value).ownBlock) (Kd.R_keptB ((Kd.R_apart' HO_363003.out (Kd.R_typed HO_5.out) (by decide))) hkp (fun k_ hk_ hs_ => (hk_.2) hs_)) (fun k_ hk_ => hk_.1.1)); have n7_ := aM_ (blk_kept (by (with_reducible repeat (first | refine kN_ ?_ _ | refine kD_ ?_ | refine kA_ ?_ _)); exact BK347.out) hkp (fun hs_ => (fun e_ => (Kd.R_ne HO_5.out BK347.out (by decide)) e_) hs_)); have n8_ := aM_ (blk_kept (by (with_reducible repeat (first | refine kN_ ?_ _ | refine kD_ ?_ | refine kA_ ?_ _)); exact BK362.out) hkp (fun hs_ => (fun e_ => (Kd.R_ne HO_5.out BK362.out (by decide)) e_) hs_)); have n9_ := aM_ (Kd.R_mono (ok' := fun k_ => some k_ ≠ (.slice Ao17 t348.length co17 : Value).ownBlock) (Kd.R_keptB (HO366.out) hkp (fun k_ hk_ hs_ => (hk_.2) hs_)) (fun k_ hk_ => hk_.1.2)); have n10_ := aM_ (hb); clear HO_5; clear HO_348001; clear HO_348002; clear HO_348003; clear HO_363001; clear HO_363002; clear HO_363003; clear BK347; clear BK362; clear HO366; clear HB; have HO_5 := n0_; have HO_348001 := n1_; have HO_348002 := n2_; have HO_348003 := n3_; have HO_363001 := n4_; have HO_363002 := n5_; have HO_363003 := n6_; have BK347 := n7_; have BK362 := n8_; have HO366 := n9_; have HB := n10_; clear n0_ n1_ n2_ n3_ n4_ n5_ n6_ n7_ n8_ n9_ n10_; (try clear hb); (try clear hkp); (try clear hy0)))
      (try simp only [Act.put, sI_, sZ_, sS_])
      go_cut [58] (fun v58 wc => ∃ (kq : Nat) (x58_39 : Bool), v58 = .bool x58_39 ∧ Aside0 (laws_FnExactGetNode.j1 kq l0 t346 x58_39 t336 t337 t340 t343 t351 t352 t355 t358 = some r) ∧ Aside0 (kq ≤ kj6) ∧ Aside0 (Kd.R Kd.string 9 wc w.heap.size (fun k_ => some k_ ≠ ((.slice Ao14 t340.length co14) : Value).ownBlock ∧ some k_ ≠ ((.slice Ao22 t352.length co22) : Value).ownBlock ∧ some k_ ≠ ((.slice Ao23 t355.length co23) : Value).ownBlock) (.slice Ao13 t337.length co13) t337) ∧ Aside0 (Kd.R Kd.string 9 wc w.heap.size (fun k_ => some k_ ≠ ((.slice Ao13 t337.length co13) : Value).ownBlock ∧ some k_ ≠ ((.slice Ao22 t352.length co22) : Value).ownBlock ∧ some k_ ≠ ((.slice Ao23 t355.length co23) : Value).ownBlock) (.slice Ao14 t340.length co14) t340) ∧ Aside0 (Kd.R (Kd.int .i64) 3 wc w.heap.size (fun k_ => some k_ ≠ ((.slice Ao24 t358.length co24) : Value).ownBlock) (.slice Ao15 t343.length co15) t343) ∧ Aside0 (Kd.R Kd.string 9 wc w.heap.size (fun k_ => some k_ ≠ ((.slice Ao13 t337.length co13) : Value).ownBlock ∧ some k_ ≠ ((.slice Ao14 t340.length co14) : Value).ownBlock ∧ some k_ ≠ ((.slice Ao23 t355.length co23) : Value).ownBlock) (.slice Ao22 t352.length co22) t352) ∧ Aside0 (Kd.R Kd.string 9 wc w.heap.size (fun k_ => some k_ ≠ ((.slice Ao13 t337.length co13) : Value).ownBlock ∧ some k_ ≠ ((.slice Ao14 t340.length co14) : Value).ownBlock ∧ some k_ ≠ ((.slice Ao22 t352.length co22) : Value).ownBlock) (.slice Ao23 t355.length co23) t355) ∧ Aside0 (Kd.R (Kd.int .i64) 3 wc w.heap.size (fun k_ => some k_ ≠ ((.slice Ao15 t343.length co15) : Value).ownBlock) (.slice Ao24 t358.length co24) t358) ∧ Aside0 (wc.heap[gb347]? = some (.cells #[.bool t336, (.slice Ao13 t337.length co13), (.slice Ao14 t340.length co14), (.slice Ao15 t343.length co15)] 29 (0, 0))) ∧ Aside0 (wc.heap[gb362]? = some (.cells #[.bool t351, (.slice Ao22 t352.length co22), (.slice Ao23 t355.length co23), (.slice Ao24 t358.length co24)] 29 (0, 0))) ∧ Aside0 (Below w.heap.size w wc))
      case first =>
       have H := HC40.out
       clear HC40
       by_cases c44 : t368 < 0
       ·rw [if_pos c44] at H
        have c44b0 : decide (t368 < 0) = true := decide_eq_true c44
        clear c44
        (first | rw [c44b0] | (simp only [i64_w, i32_w]; rw [c44b0]) | skip)
        have H' := aM_ H
        clear H
        go_wp2
        (first | go_meet | (refine Met.intro ?_; go_step; (repeat apply Exists.intro); refine ⟨?rel, ?eq⟩; (case eq => (try simp only [c29b0]); (try simp only [c29b0]); (try simp only [c44b0]); rfl)))
        case rel => exact ⟨_, (true), (by first | rfl | (simp; done) | (simp [*]; done)), H', ⟨by have := HJ6.out; first | omega | exact Nat.le_refl _⟩, ⟨by (with_reducible repeat (first | apply rA_ | apply rN_ | apply rD_)); exact HO_348001.out⟩, ⟨by (with_reducible repeat (first | apply rA_ | apply rN_ | apply rD_)); exact HO_348002.out⟩, ⟨by (with_reducible repeat (first | apply rA_ | apply rN_ | apply rD_)); exact HO_348003.out⟩, ⟨by (with_reducible repeat (first | apply rA_ | apply rN_ | apply rD_)); exact HO_363001.out⟩, ⟨by (with_reducible repeat (first | apply rA_ | apply rN_ | apply rD_)); exact HO_363002.out⟩, ⟨by (with_reducible repeat (first | apply rA_ | apply rN_ | apply rD_)); exact HO_363003.out⟩, ⟨by (with_reducible repeat (first | refine kN_ ?_ _ | refine kD_ ?_ | refine kA_ ?_ _)); exact BK347.out⟩, ⟨by (with_reducible repeat (first | refine kN_ ?_ _ | refine kD_ ?_ | refine kA_ ?_ _)); exact BK362.out⟩, ⟨by repeat (first | (with_reducible first | exact HB.out | apply bA_ | apply bN_ | apply bD_ | refine bE_ ?_ GE347.out | refine bE_ ?_ GE362.out) | exact HB.out)⟩⟩
       ·rw [if_neg c44] at H
        have c44b0 : decide (t368 < 0) = false := decide_eq_false c44
        clear c44
        (first | rw [c44b0] | (simp only [i64_w, i32_w]; rw [c44b0]) | skip)
        replace H := oB_ H
        obtain ⟨t370, A450, H⟩ := H
        replace H : (if t370 = true then (laws_FnExactGetNode.j1 kj6 l0 t346 (t361 != t346) t336 t337 t340 t343 t351 t352 t355 t358) else (laws_FnExactGetNode.j1 kj6 l0 t346 true t336 t337 t340 t343 t351 t352 t355 t358)) = some r := H
        have A45 := aM_ A450
        clear A450
        by_cases c46 : t370 = true
        ·subst c46
         have H1 : (laws_FnExactGetNode.j1 kj6 l0 t346 (t361 != t346) t336 t337 t340 t343 t351 t352 t355 t358) = some r := by rw [if_pos rfl] at H; exact H
         clear H
         have H := H1
         clear H1
         have H' := aM_ H
         clear H
         have hnb47 := NB362_347.out
         have hnc47 := NB347_362.out
         have hcz48_0 : w43.cell? ⟨gb362, 0, none⟩ = some (.bool t351) := (kC_ BK362.out 0).trans rfl
         have hcz48_1 : w43.cell? ⟨gb362, 1, none⟩ = some (.slice Ao22 t352.length co22) := (kC_ BK362.out 1).trans rfl
         have hcz48_2 : w43.cell? ⟨gb362, 2, none⟩ = some (.slice Ao23 t355.length co23) := (kC_ BK362.out 2).trans rfl
         have hcz48_3 : w43.cell? ⟨gb362, 3, none⟩ = some (.slice Ao24 t358.length co24) := (kC_ BK362.out 3).trans rfl
         have hfz48_0 := kF_ BK362.out 0
         have hfz48_1 := kF_ BK362.out 1
         have hfz48_2 := kF_ BK362.out 2
         have hfz48_3 := kF_ BK362.out 3
         have hcz49_0 : w43.cell? ⟨gb347, 0, none⟩ = some (.bool t336) := (kC_ BK347.out 0).trans rfl
         have hcz49_1 : w43.cell? ⟨gb347, 1, none⟩ = some (.slice Ao13 t337.length co13) := (kC_ BK347.out 1).trans rfl
         have hcz49_2 : w43.cell? ⟨gb347, 2, none⟩ = some (.slice Ao14 t340.length co14) := (kC_ BK347.out 2).trans rfl
         have hcz49_3 : w43.cell? ⟨gb347, 3, none⟩ = some (.slice Ao15 t343.length co15) := (kC_ BK347.out 3).trans rfl
         have hfz49_0 := kF_ BK347.out 0
         have hfz49_1 := kF_ BK347.out 1
         have hfz49_2 := kF_ BK347.out 2
         have hfz49_3 := kF_ BK347.out 3
         go_wp2_with (first | (go_at_call 17; (with_reducible refine (laws_eqNode.calls kj6 t351 _ _ t352 _ _ t355 _ _ t358 t336 _ _ t337 _ _ t340 _ _ t343 true _ ?side1 ?side2 ?side3 ?side4 ?side5 ?side6 ?side7 ?side8 ?side9 ?side10 ?side11 ?side12 A45.out).mono ?_); (case side1 => repeat (first | exact (Kd.R_reads' HO_363001.out).2.2 | (with_reducible refine cA_ ?_ _) | (with_reducible refine cN_ ?_ _) | (with_reducible refine cD_ ?_))); (case side2 => exact (Kd.R_reads' HO_363001.out).2.1); (case side3 => repeat (first | exact (Kd.R_reads' HO_363002.out).2.2 | (with_reducible refine cA_ ?_ _) | (with_reducible refine cN_ ?_ _) | (with_reducible refine cD_ ?_))); (case side4 => exact (Kd.R_reads' HO_363002.out).2.1); (case side5 => repeat (first | exact (Kd.R_reads' HO_363003.out).2.2 | (with_reducible refine cA_ ?_ _) | (with_reducible refine cN_ ?_ _) | (with_reducible refine cD_ ?_))); (case side6 => exact (Kd.R_reads' HO_363003.out).2.1); (case side7 => repeat (first | exact (Kd.R_reads' HO_348001.out).2.2 | (with_reducible refine cA_ ?_ _) | (with_reducible refine cN_ ?_ _) | (with_reducible refine cD_ ?_))); (case side8 => exact (Kd.R_reads' HO_348001.out).2.1); (case side9 => repeat (first | exact (Kd.R_reads' HO_348002.out).2.2 | (with_reducible refine cA_ ?_ _) | (with_reducible refine cN_ ?_ _) | (with_reducible refine cD_ ?_))); (case side10 => exact (Kd.R_reads' HO_348002.out).2.1); (case side11 => repeat (first | exact (Kd.R_reads' HO_348003.out).2.2 | (with_reducible refine cA_ ?_ _) | (with_reducible refine cN_ ?_ _) | (with_reducible refine cD_ ?_))); (case side12 => exact (Kd.R_reads' HO_348003.out).2.1); rintro e w50 ⟨rfl, hb⟩; have n0_ := aM_ (Kd.R_below (by (with_reducible repeat (first | apply rA_ | apply rN_ | apply rD_)); exact HO_5.out) hb); have n1_ := aM_ (Kd.R_below (by (with_reducible repeat (first | apply rA_ | apply rN_ | apply rD_)); exact HO_348001.out) hb); have n2_ := aM_ (Kd.R_below (by (with_reducible repeat (first | apply rA_ | apply rN_ | apply rD_)); exact HO_348002.out) hb); have n3_ := aM_ (Kd.R_below (by (with_reducible repeat (first | apply rA_ | apply rN_ | apply rD_)); exact HO_348003.out) hb); have n4_ := aM_ (Kd.R_below (by (with_reducible repeat (first | apply rA_ | apply rN_ | apply rD_)); exact HO_363001.out) hb); have n5_ := aM_ (Kd.R_below (by (with_reducible repeat (first | apply rA_ | apply rN_ | apply rD_)); exact HO_363002.out) hb); have n6_ := aM_ (Kd.R_below (by (with_reducible repeat (first | apply rA_ | apply rN_ | apply rD_)); exact HO_363003.out) hb); have n7_ := aM_ (Kd.R_below (by (with_reducible repeat (first | apply rA_ | apply rN_ | apply rD_)); exact HO366.out) hb); have n8_ := aM_ (blk_below (g := gb347) (o := .cells #[.bool t336, .slice Ao13 t337.length co13, .slice Ao14 t340.length co14, .slice Ao15 t343.length co15] 29 (0, 0)) (by (with_reducible repeat (first | refine kN_ ?_ _ | refine kD_ ?_ | refine kA_ ?_ _)); exact BK347.out) hb); have n9_ := aM_ (blk_below (g := gb362) (o := .cells #[.bool t351, .slice Ao22 t352.length co22, .slice Ao23 t355.length co23, .slice Ao24 t358.length co24] 29 (0, 0)) (by (with_reducible repeat (first | refine kN_ ?_ _ | refine kD_ ?_ | refine kA_ ?_ _)); exact BK362.out) hb); have n10_ := aM_ (bT_ (by repeat (first | (with_reducible first | exact HB.out | apply bA_ | apply bN_ | apply bD_ | refine bE_ ?_ GE347.out | refine bE_ ?_ GE362.out) | exact HB.out)) hb); clear HO_5; clear HO_348001; clear HO_348002; clear HO_348003; clear HO_363001; clear HO_363002; clear HO_363003; clear HO366; clear BK347; clear BK362; clear HB; have HO_5 := n0_; have HO_348001 := n1_; have HO_348002 := n2_; have HO_348003 := n3_; have HO_363001 := n4_; have HO_363002 := n5_; have HO_363003 := n6_; have HO366 := n7_; have BK347 := n8_; have BK362 := n9_; have HB := n10_; clear n0_ n1_ n2_ n3_ n4_ n5_ n6_ n7_ n8_ n9_ n10_; (try clear hb); (try clear hb2); (try clear hk); (try clear hi)))
         (first | go_meet | (refine Met.intro ?_; go_step; (repeat apply Exists.intro); refine ⟨?rel, ?eq⟩; (case eq => (try simp only [c29b0]); (try simp only [c44b0]); (try simp only [c44b0]); rfl)))
         case rel => exact ⟨_, ((t361 != t346)), (by first | rfl | (simp; done) | (simp [*]; done)), H', ⟨by have := HJ6.out; first | omega | exact Nat.le_refl _⟩, ⟨by (with_reducible repeat (first | apply rA_ | apply rN_ | apply rD_)); exact HO_348001.out⟩, ⟨by (with_reducible repeat (first | apply rA_ | apply rN_ | apply rD_)); exact HO_348002.out⟩, ⟨by (with_reducible repeat (first | apply rA_ | apply rN_ | apply rD_)); exact HO_348003.out⟩, ⟨by (with_reducible repeat (first | apply rA_ | apply rN_ | apply rD_)); exact HO_363001.out⟩, ⟨by (with_reducible repeat (first | apply rA_ | apply rN_ | apply rD_)); exact HO_363002.out⟩, ⟨by (with_reducible repeat (first | apply rA_ | apply rN_ | apply rD_)); exact HO_363003.out⟩, ⟨by (with_reducible repeat (first | refine kN_ ?_ _ | refine kD_ ?_ | refine kA_ ?_ _)); exact BK347.out⟩, ⟨by (with_reducible repeat (first | refine kN_ ?_ _ | refine kD_ ?_ | refine kA_ ?_ _)); exact BK362.out⟩, ⟨by repeat (first | (with_reducible first | exact HB.out | apply bA_ | apply bN_ | apply bD_ | refine bE_ ?_ GE347.out | refine bE_ ?_ GE362.out) | exact HB.out)⟩⟩
        ·replace c46 := Bool.eq_false_iff.mpr c46
         subst c46
         have H1 : (laws_FnExactGetNode.j1 kj6 l0 t346 true t336 t337 t340 t343 t351 t352 t355 t358) = some r := by rw [if_neg (show ¬ (false = true) by decide)] at H; exact H
         clear H
         have H := H1
         clear H1
         have H' := aM_ H
         clear H
         have hnb51 := NB362_347.out
         have hnc51 := NB347_362.out
         have hcz52_0 : w43.cell? ⟨gb362, 0, none⟩ = some (.bool t351) := (kC_ BK362.out 0).trans rfl
         have hcz52_1 : w43.cell? ⟨gb362, 1, none⟩ = some (.slice Ao22 t352.length co22) := (kC_ BK362.out 1).trans rfl
         have hcz52_2 : w43.cell? ⟨gb362, 2, none⟩ = some (.slice Ao23 t355.length co23) := (kC_ BK362.out 2).trans rfl
         have hcz52_3 : w43.cell? ⟨gb362, 3, none⟩ = some (.slice Ao24 t358.length co24) := (kC_ BK362.out 3).trans rfl
         have hfz52_0 := kF_ BK362.out 0
         have hfz52_1 := kF_ BK362.out 1
         have hfz52_2 := kF_ BK362.out 2
         have hfz52_3 := kF_ BK362.out 3
         have hcz53_0 : w43.cell? ⟨gb347, 0, none⟩ = some (.bool t336) := (kC_ BK347.out 0).trans rfl
         have hcz53_1 : w43.cell? ⟨gb347, 1, none⟩ = some (.slice Ao13 t337.length co13) := (kC_ BK347.out 1).trans rfl
         have hcz53_2 : w43.cell? ⟨gb347, 2, none⟩ = some (.slice Ao14 t340.length co14) := (kC_ BK347.out 2).trans rfl
         have hcz53_3 : w43.cell? ⟨gb347, 3, none⟩ = some (.slice Ao15 t343.length co15) := (kC_ BK347.out 3).trans rfl
         have hfz53_0 := kF_ BK347.out 0
         have hfz53_1 := kF_ BK347.out 1
         have hfz53_2 := kF_ BK347.out 2
         have hfz53_3 := kF_ BK347.out 3
         go_wp2_with (first | (go_at_call 17; (with_reducible refine (laws_eqNode.calls kj6 t351 _ _ t352 _ _ t355 _ _ t358 t336 _ _ t337 _ _ t340 _ _ t343 false _ ?side1 ?side2 ?side3 ?side4 ?side5 ?side6 ?side7 ?side8 ?side9 ?side10 ?side11 ?side12 A45.out).mono ?_); (case side1 => repeat (first | exact (Kd.R_reads' HO_363001.out).2.2 | (with_reducible refine cA_ ?_ _) | (with_reducible refine cN_ ?_ _) | (with_reducible refine cD_ ?_))); (case side2 => exact (Kd.R_reads' HO_363001.out).2.1); (case side3 => repeat (first | exact (Kd.R_reads' HO_363002.out).2.2 | (with_reducible refine cA_ ?_ _) | (with_reducible refine cN_ ?_ _) | (with_reducible refine cD_ ?_))); (case side4 => exact (Kd.R_reads' HO_363002.out).2.1); (case side5 => repeat (first | exact (Kd.R_reads' HO_363003.out).2.2 | (with_reducible refine cA_ ?_ _) | (with_reducible refine cN_ ?_ _) | (with_reducible refine cD_ ?_))); (case side6 => exact (Kd.R_reads' HO_363003.out).2.1); (case side7 => repeat (first | exact (Kd.R_reads' HO_348001.out).2.2 | (with_reducible refine cA_ ?_ _) | (with_reducible refine cN_ ?_ _) | (with_reducible refine cD_ ?_))); (case side8 => exact (Kd.R_reads' HO_348001.out).2.1); (case side9 => repeat (first | exact (Kd.R_reads' HO_348002.out).2.2 | (with_reducible refine cA_ ?_ _) | (with_reducible refine cN_ ?_ _) | (with_reducible refine cD_ ?_))); (case side10 => exact (Kd.R_reads' HO_348002.out).2.1); (case side11 => repeat (first | exact (Kd.R_reads' HO_348003.out).2.2 | (with_reducible refine cA_ ?_ _) | (with_reducible refine cN_ ?_ _) | (with_reducible refine cD_ ?_))); (case side12 => exact (Kd.R_reads' HO_348003.out).2.1); rintro e w54 ⟨rfl, hb⟩; have n0_ := aM_ (Kd.R_below (by (with_reducible repeat (first | apply rA_ | apply rN_ | apply rD_)); exact HO_5.out) hb); have n1_ := aM_ (Kd.R_below (by (with_reducible repeat (first | apply rA_ | apply rN_ | apply rD_)); exact HO_348001.out) hb); have n2_ := aM_ (Kd.R_below (by (with_reducible repeat (first | apply rA_ | apply rN_ | apply rD_)); exact HO_348002.out) hb); have n3_ := aM_ (Kd.R_below (by (with_reducible repeat (first | apply rA_ | apply rN_ | apply rD_)); exact HO_348003.out) hb); have n4_ := aM_ (Kd.R_below (by (with_reducible repeat (first | apply rA_ | apply rN_ | apply rD_)); exact HO_363001.out) hb); have n5_ := aM_ (Kd.R_below (by (with_reducible repeat (first | apply rA_ | apply rN_ | apply rD_)); exact HO_363002.out) hb); have n6_ := aM_ (Kd.R_below (by (with_reducible repeat (first | apply rA_ | apply rN_ | apply rD_)); exact HO_363003.out) hb); have n7_ := aM_ (Kd.R_below (by (with_reducible repeat (first | apply rA_ | apply rN_ | apply rD_)); exact HO366.out) hb); have n8_ := aM_ (blk_below (g := gb347) (o := .cells #[.bool t336, .slice Ao13 t337.length co13, .slice Ao14 t340.length co14, .slice Ao15 t343.length co15] 29 (0, 0)) (by (with_reducible repeat (first | refine kN_ ?_ _ | refine kD_ ?_ | refine kA_ ?_ _)); exact BK347.out) hb); have n9_ := aM_ (blk_below (g := gb362) (o := .cells #[.bool t351, .slice Ao22 t352.length co22, .slice Ao23 t355.length co23, .slice Ao24 t358.length co24] 29 (0, 0)) (by (with_reducible repeat (first | refine kN_ ?_ _ | refine kD_ ?_ | refine kA_ ?_ _)); exact BK362.out) hb); have n10_ := aM_ (bT_ (by repeat (first | (with_reducible first | exact HB.out | apply bA_ | apply bN_ | apply bD_ | refine bE_ ?_ GE347.out | refine bE_ ?_ GE362.out) | exact HB.out)) hb); clear HO_5; clear HO_348001; clear HO_348002; clear HO_348003; clear HO_363001; clear HO_363002; clear HO_363003; clear HO366; clear BK347; clear BK362; clear HB; have HO_5 := n0_; have HO_348001 := n1_; have HO_348002 := n2_; have HO_348003 := n3_; have HO_363001 := n4_; have HO_363002 := n5_; have HO_363003 := n6_; have HO366 := n7_; have BK347 := n8_; have BK362 := n9_; have HB := n10_; clear n0_ n1_ n2_ n3_ n4_ n5_ n6_ n7_ n8_ n9_ n10_; (try clear hb); (try clear hb2); (try clear hk); (try clear hi)))
         (first | go_meet | (refine Met.intro ?_; go_step; (repeat apply Exists.intro); refine ⟨?rel, ?eq⟩; (case eq => (try simp only [c29b0]); (try simp only [c44b0]); (try simp only [c44b0]); rfl)))
         case rel => exact ⟨_, (true), (by first | rfl | (simp; done) | (simp [*]; done)), H', ⟨by have := HJ6.out; first | omega | exact Nat.le_refl _⟩, ⟨by (with_reducible repeat (first | apply rA_ | apply rN_ | apply rD_)); exact HO_348001.out⟩, ⟨by (with_reducible repeat (first | apply rA_ | apply rN_ | apply rD_)); exact HO_348002.out⟩, ⟨by (with_reducible repeat (first | apply rA_ | apply rN_ | apply rD_)); exact HO_348003.out⟩, ⟨by (with_reducible repeat (first | apply rA_ | apply rN_ | apply rD_)); exact HO_363001.out⟩, ⟨by (with_reducible repeat (first | apply rA_ | apply rN_ | apply rD_)); exact HO_363002.out⟩, ⟨by (with_reducible repeat (first | apply rA_ | apply rN_ | apply rD_)); exact HO_363003.out⟩, ⟨by (with_reducible repeat (first | refine kN_ ?_ _ | refine kD_ ?_ | refine kA_ ?_ _)); exact BK347.out⟩, ⟨by (with_reducible repeat (first | refine kN_ ?_ _ | refine kD_ ?_ | refine kA_ ?_ _)); exact BK362.out⟩, ⟨by repeat (first | (with_reducible first | exact HB.out | apply bA_ | apply bN_ | apply bD_ | refine bE_ ?_ GE347.out | refine bE_ ?_ GE362.out) | exact HB.out)⟩⟩
      case rest =>
       clear HC40
       try clear c1
       try clear c2
       try clear c2b0
       try clear c2b1
       try clear p2
       try clear c3
       try clear c4
       try clear c5
       try clear c16
       try clear c17
       try clear c18
       try clear c18b0
       try clear c19
       try clear c20
       try clear c21
       try clear c22
       try clear c23
       try clear c26
       try clear c27
       try clear c29
       try clear c29b0
       try clear c31
       try clear c35
       try clear c38
       try clear c44
       try clear c44b0
       try clear c46
       try clear c47
       try clear c51
       try clear hcz12_0
       try clear hcz12_1
       try clear hcz12_2
       try clear hcz12_3
       try clear hcz21_0
       try clear hcz21_1
       try clear hcz21_2
       try clear hcz21_3
       try clear hcz28_0
       try clear hcz28_1
       try clear hcz28_2
       try clear hcz28_3
       try clear hcz29_0
       try clear hcz29_1
       try clear hcz29_2
       try clear hcz29_3
       try clear hcz32_0
       try clear hcz32_1
       try clear hcz32_2
       try clear hcz32_3
       try clear hcz33_0
       try clear hcz33_1
       try clear hcz33_2
       try clear hcz33_3
       try clear hcz48_0
       try clear hcz48_1
       try clear hcz48_2
       try clear hcz48_3
       try clear hcz49_0
       try clear hcz49_1
       try clear hcz49_2
       try clear hcz49_3
       try clear hcz52_0
       try clear hcz52_1
       try clear hcz52_2
       try clear hcz52_3
       try clear hcz53_0
       try clear hcz53_1
       try clear hcz53_2
       try clear hcz53_3
       try clear hfz12_0
       try clear hfz12_1
       try clear hfz12_2
       try clear hfz12_3
       try clear hfz21_0
       try clear hfz21_1
       try clear hfz21_2
       try clear hfz21_3
       try clear hfz28_0
       try clear hfz28_1
       try clear hfz28_2
       try clear hfz28_3
       try clear hfz29_0
       try clear hfz29_1
       try clear hfz29_2
       try clear hfz29_3
       try clear hfz32_0
       try clear hfz32_1
       try clear hfz32_2
       try clear hfz32_3
       try clear hfz33_0
       try clear hfz33_1
       try clear hfz33_2
       try clear hfz33_3
       try clear hfz48_0
       try clear hfz48_1
       try clear hfz48_2
       try clear hfz48_3
       try clear hfz49_0
       try clear hfz49_1
       try clear hfz49_2
       try clear hfz49_3
       try clear hfz52_0
       try clear hfz52_1
       try clear hfz52_2
       try clear hfz52_3
       try clear hfz53_0
       try clear hfz53_1
       try clear hfz53_2
       try clear hfz53_3
       try clear p2
       obtain ⟨kq, x58_39, rfl, HA, HJ39, HO_348001, HO_348002, HO_348003, HO_363001, HO_363002, HO_363003, BK347, BK362, HB⟩ := hcut
       cases kq with
       | zero => exact absurd HA.out (by simp [laws_FnExactGetNode.j1])
       | succ kj39 =>
        have H := HA.out
        clear HA
        simp only [laws_FnExactGetNode.j1] at H
        by_cases c55 : x58_39 = true
        ·subst c55
         have H1 : (some false) = some r := by rw [if_pos rfl] at H; exact H
         clear H
         have H := H1
         clear H1
         exact absurd (H.trans (congrArg some hr_.out)) (by simp)
        ·replace c55 := Bool.eq_false_iff.mpr c55
         subst c55
         have H1 : ((laws_markNode.f kj39 t351 t352 t355 t358 1).bind fun bt371 => ((laws_heldNode.f kj39 t351 bt371.2.1 bt371.2.2.1 bt371.2.2.2 1).bind fun t375 => (if t375 < 0 then (some false) else (if t375 = bt371.1 then ((laws_toByteS.f kj39 l0).bind fun t376 => ((impl_GetNode.f kj39 t376).bind fun bt379 => ((laws_eqNode.f kj39 bt379.1 bt379.2.1 bt379.2.2.1 bt379.2.2.2.1 t336 t337 t340 t343).bind fun t391 => (if t391 = true then (laws_FnExactGetNode.j2 kj39 bt371.1 (bt379.2.2.2.2 != t346) t351 bt371.2.1 bt371.2.2.1 bt371.2.2.2) else (laws_FnExactGetNode.j2 kj39 bt371.1 true t351 bt371.2.1 bt371.2.2.1 bt371.2.2.2))))) else (some false))))) = some r := by rw [if_neg (show ¬ (false = true) by decide)] at H; exact H
         clear H
         have H := H1
         clear H1
         replace H := oB_ H
         obtain ⟨⟨t371, t372, t373, t374⟩, A560, H⟩ := H
         replace H : ((laws_heldNode.f kj39 t351 t372 t373 t374 1).bind fun t375 => (if t375 < 0 then (some false) else (if t375 = t371 then ((laws_toByteS.f kj39 l0).bind fun t376 => ((impl_GetNode.f kj39 t376).bind fun bt379 => ((laws_eqNode.f kj39 bt379.1 bt379.2.1 bt379.2.2.1 bt379.2.2.2.1 t336 t337 t340 t343).bind fun t391 => (if t391 = true then (laws_FnExactGetNode.j2 kj39 t371 (bt379.2.2.2.2 != t346) t351 t372 t373 t374) else (laws_FnExactGetNode.j2 kj39 t371 true t351 t372 t373 t374))))) else (some false)))) = some r := H
         have A56 := aM_ A560
         clear A560
         replace H := oB_ H
         obtain ⟨t375, A570, H⟩ := H
         replace H : (if t375 < 0 then (some false) else (if t375 = t371 then ((laws_toByteS.f kj39 l0).bind fun t376 => ((impl_GetNode.f kj39 t376).bind fun bt379 => ((laws_eqNode.f kj39 bt379.1 bt379.2.1 bt379.2.2.1 bt379.2.2.2.1 t336 t337 t340 t343).bind fun t391 => (if t391 = true then (laws_FnExactGetNode.j2 kj39 t371 (bt379.2.2.2.2 != t346) t351 t372 t373 t374) else (laws_FnExactGetNode.j2 kj39 t371 true t351 t372 t373 t374))))) else (some false))) = some r := H
         have A57 := aM_ A570
         clear A570
         by_cases c58 : t375 < 0
         ·rw [if_pos c58] at H
          have c58b0 : decide (t375 < 0) = true := decide_eq_true c58
          clear c58
          exact absurd (H.trans (congrArg some hr_.out)) (by simp)
         ·rw [if_neg c58] at H
          have c58b0 : decide (t375 < 0) = false := decide_eq_false c58
          clear c58
          by_cases c59 : t375 = t371
          ·rw [if_pos c59] at H
           have c59b0 : (t375 == t371) = true := beq_iff_eq.mpr c59
           have c59b1 : (t375 != t371) = false := bne_eq_false_iff_eq.mpr c59
           clear c59
           replace H := oB_ H
           obtain ⟨t376, A600, H⟩ := H
           replace H : ((impl_GetNode.f kj39 t376).bind fun bt379 => ((laws_eqNode.f kj39 bt379.1 bt379.2.1 bt379.2.2.1 bt379.2.2.2.1 t336 t337 t340 t343).bind fun t391 => (if t391 = true then (laws_FnExactGetNode.j2 kj39 t371 (bt379.2.2.2.2 != t346) t351 t372 t373 t374) else (laws_FnExactGetNode.j2 kj39 t371 true t351 t372 t373 t374)))) = some r := H
           have A60 := aM_ A600
           clear A600
           replace H := oB_ H
           obtain ⟨⟨t379, t380, t383, t386, t389⟩, A610, H⟩ := H
           replace H : ((laws_eqNode.f kj39 t379 t380 t383 t386 t336 t337 t340 t343).bind fun t391 => (if t391 = true then (laws_FnExactGetNode.j2 kj39 t371 (t389 != t346) t351 t372 t373 t374) else (laws_FnExactGetNode.j2 kj39 t371 true t351 t372 t373 t374))) = some r := H
           have A61 := aM_ A610
           clear A610
           have HC62 := aM_ H
           clear H
           have hnb63 := NB362_347.out
           have hnc63 := NB347_362.out
           have hcz64_0 : wc.cell? ⟨gb362, 0, none⟩ = some (.bool t351) := (kC_ BK362.out 0).trans rfl
           have hcz64_1 : wc.cell? ⟨gb362, 1, none⟩ = some (.slice Ao22 t352.length co22) := (kC_ BK362.out 1).trans rfl
           have hcz64_2 : wc.cell? ⟨gb362, 2, none⟩ = some (.slice Ao23 t355.length co23) := (kC_ BK362.out 2).trans rfl
           have hcz64_3 : wc.cell? ⟨gb362, 3, none⟩ = some (.slice Ao24 t358.length co24) := (kC_ BK362.out 3).trans rfl
           have hfz64_0 := kF_ BK362.out 0
           have hfz64_1 := kF_ BK362.out 1
           have hfz64_2 := kF_ BK362.out 2
           have hfz64_3 := kF_ BK362.out 3
           go_upto_region 23 with (first | ((with_reducible refine gate_callee (f := 18) rfl ?_); refine goesL_ (some 61) rfl rfl Try.func18 (by kernel_rfl) rfl #[.agg #[.bool t351, .slice Ao22 t352.length co22, .slice Ao23 t355.length co23, .slice Ao24 t358.length co24], .int .i64 1] rfl (by (try simp only [mA_, mC_, mN_]); first | done | rfl | (simp only [lD_, lT_]; rfl)) ?_; (with_reducible refine (laws_markNode.calls kj39 t351 (fun k_ => some k_ = (.slice Ao22 t352.length co22 : Value).ownBlock) (.slice Ao22 t352.length co22) t352 (fun k_ => some k_ = (.slice Ao23 t355.length co23 : Value).ownBlock) (.slice Ao23 t355.length co23) t355 (fun k_ => some k_ = (.slice Ao24 t358.length co24 : Value).ownBlock) (.slice Ao24 t358.length co24) t358 1 t371 t372 t373 t374 w _ ?side1 ?side2 ?side3 ?side4 ?side5 ?side6 A56.out).mono ?_); (case side1 => repeat (first | (with_reducible first | exact HB.out | apply bA_ | apply bN_ | apply bD_ | refine bE_ ?_ GE347.out | refine bE_ ?_ GE362.out) | exact HB.out)); (case side2 => exact Kd.R_tight rfl HO_363001.out); (case side3 => exact fun k_ e_ => (HO_363001.out.1 k_ e_.symm).2.2); (case side4 => exact Kd.R_tight rfl HO_363002.out); (case side5 => exact fun k_ e_ => (HO_363002.out.1 k_ e_.symm).2.2); (case side6 => exact Kd.R_tight rfl HO_363003.out); rintro e w65 ⟨rfl, hy0, hy1, hy2, hb, hkp⟩; refine ⟨_, rfl, ?_⟩; have n0_ := aM_ (Kd.R_mono (ok' := fun k_ => some k_ ≠ (.slice Ao14 t340.length co14 : Value).ownBlock ∧ some k_ ≠ (.slice Ao22 t352.length co22 : Value).ownBlock ∧ some k_ ≠ (.slice Ao23 t355.length co23 : Value).ownBlock) (Kd.R_keptB ((Kd.R_apart' HO_348001.out (Kd.R_typed HO_363003.out) (by decide))) hkp (fun k_ hk_ hs_ => Or.elim hs_ (fun e_ => (hk_.1.2.1) e_) (fun e_ => Or.elim e_ (fun e_ => (hk_.1.2.2) e_) (fun e_ => (hk_.2) e_)))) (fun k_ hk_ => ⟨hk_.1.1.1, hk_.1.1.2.1, hk_.1.1.2.2⟩)); have n1_ := aM_ (Kd.R_mono (ok' := fun k_ => some k_ ≠ (.slice Ao13 t337.length co13 : Value).ownBlock ∧ some k_ ≠ (.slice Ao22 t352.length co22 : Value).ownBlock ∧ some k_ ≠ (.slice Ao23 t355.length co23 : Value).ownBlock) (Kd.R_keptB ((Kd.R_apart' HO_348002.out (Kd.R_typed HO_363003.out) (by decide))) hkp (fun k_ hk_ hs_ => Or.elim hs_ (fun e_ => (hk_.1.2.1) e_) (fun e_ => Or.elim e_ (fun e_ => (hk_.1.2.2) e_) (fun e_ => (hk_.2) e_)))) (fun k_ hk_ => ⟨hk_.1.1.1, hk_.1.1.2.1, hk_.1.1.2.2⟩)); have n2_ := aM_ (Kd.R_mono (ok' := fun k_ => some k_ ≠ (.slice Ao24 t358.length co24 : Value).ownBlock) (Kd.R_keptB ((Kd.R_apart' (Kd.R_apart' HO_348003.out (Kd.R_typed HO_363001.out) (by decide)) (Kd.R_typed HO_363002.out) (by decide))) hkp (fun k_ hk_ hs_ => Or.elim hs_ (fun e_ => (hk_.1.2) e_) (fun e_ => Or.elim e_ (fun e_ => (hk_.2) e_) (fun e_ => (hk_.1.1) e_)))) (fun k_ hk_ => hk_.1.1.1)); have n3_ := aM_ (Kd.R_reok rfl hy0 (fun k_ e_ => HO_363001.out.1 k_ e_)); have n4_ := aM_ (Kd.R_reok rfl hy1 (fun k_ e_ => HO_363002.out.1 k_ e_)); have n5_ := aM_ (Kd.R_reok rfl hy2 (fun k_ e_ => HO_363003.out.1 k_ e_)); have n6_ := aM_ (blk_kept (by (with_reducible repeat (first | refine kN_ ?_ _ | refine kD_ ?_ | refine kA_ ?_ _)); exact BK347.out) hkp (fun hs_ => Or.elim hs_ (fun e_ => (fun e_ => (Kd.R_ne HO_363001.out BK347.out (by decide)) e_) e_) (fun e_ => Or.elim e_ (fun e_ => (fun e_ => (Kd.R_ne HO_363002.out BK347.out (by decide)) e_) e_) (fun e_ => (fun e_ => (Kd.R_ne HO_363003.out BK347.out (by decide)) e_) e_)))); have n7_ := aM_ (blk_kept (by (with_reducible repeat (first | refine kN_ ?_ _ | refine kD_ ?_ | refine kA_ ?_ _)); exact BK362.out) hkp (fun hs_ => Or.elim hs_ (fun e_ => (fun e_ => (Kd.R_ne HO_363001.out BK362.out (by decide)) e_) e_) (fun e_ => Or.elim e_ (fun e_ => (fun e_ => (Kd.R_ne HO_363002.out BK362.out (by decide)) e_) e_) (fun e_ => (fun e_ => (Kd.R_ne HO_363003.out BK362.out (by decide)) e_) e_)))); have n8_ := aM_ (hb); clear HO_348001; clear HO_348002; clear HO_348003; clear HO_363001; clear HO_363002; clear HO_363003; clear BK347; clear BK362; clear HB; have HO_348001 := n0_; have HO_348002 := n1_; have HO_348003 := n2_; have HO_363001 := n3_; have HO_363002 := n4_; have HO_363003 := n5_; have BK347 := n6_; have BK362 := n7_; have HB := n8_; clear n0_ n1_ n2_ n3_ n4_ n5_ n6_ n7_ n8_; (try clear hb); (try clear hkp); (try clear hy0); (try clear hy1); (try clear hy2); have hcz66_0 : w65.cell? ⟨gb362, 0, none⟩ = some (.bool t351) := (kC_ BK362.out 0).trans rfl; have hcz66_1 : w65.cell? ⟨gb362, 1, none⟩ = some (.slice Ao22 t352.length co22) := (kC_ BK362.out 1).trans rfl; have hcz66_2 : w65.cell? ⟨gb362, 2, none⟩ = some (.slice Ao23 t355.length co23) := (kC_ BK362.out 2).trans rfl; have hcz66_3 : w65.cell? ⟨gb362, 3, none⟩ = some (.slice Ao24 t358.length co24) := (kC_ BK362.out 3).trans rfl; have hfz66_0 := kF_ BK362.out 0; have hfz66_1 := kF_ BK362.out 1; have hfz66_2 := kF_ BK362.out 2; have hfz66_3 := kF_ BK362.out 3) | ((with_reducible refine gate_callee (f := 24) rfl ?_); refine goesL_ (some 64) rfl rfl Try.func24 (by kernel_rfl) rfl #[.agg #[.bool t351, .slice Ao22 t372.length co22, .slice Ao23 t373.length co23, .slice Ao24 t374.length co24], .int .i64 1] rfl (by (try simp only [mA_, mC_, mN_]); first | done | (rw [show t372.length = t352.length from (Kd.R_reads' HO_363001.out).1.symm, show t373.length = t355.length from (Kd.R_reads' HO_363002.out).1.symm, show t374.length = t358.length from (Kd.R_reads' HO_363003.out).1.symm] <;> rfl) | rfl | (simp only [lD_, lT_]; rfl)) ?_; (with_reducible refine (laws_heldNode.calls kj39 t351 _ _ t372 _ _ t373 _ _ t374 1 t375 _ ?side1 ?side2 ?side3 ?side4 ?side5 ?side6 A57.out).mono ?_); (case side1 => repeat (first | exact (Kd.R_reads' HO_363001.out).2.2 | (with_reducible refine cA_ ?_ _) | (with_reducible refine cN_ ?_ _) | (with_reducible refine cD_ ?_))); (case side2 => rw [show t372.length = t352.length from (Kd.R_reads' HO_363001.out).1.symm]; exact (Kd.R_reads' HO_363001.out).2.1); (case side3 => repeat (first | exact (Kd.R_reads' HO_363002.out).2.2 | (with_reducible refine cA_ ?_ _) | (with_reducible refine cN_ ?_ _) | (with_reducible refine cD_ ?_))); (case side4 => rw [show t373.length = t355.length from (Kd.R_reads' HO_363002.out).1.symm]; exact (Kd.R_reads' HO_363002.out).2.1); (case side5 => repeat (first | exact (Kd.R_reads' HO_363003.out).2.2 | (with_reducible refine cA_ ?_ _) | (with_reducible refine cN_ ?_ _) | (with_reducible refine cD_ ?_))); (case side6 => rw [show t374.length = t358.length from (Kd.R_reads' HO_363003.out).1.symm]; exact (Kd.R_reads' HO_363003.out).2.1); rintro e w67 ⟨rfl, hb⟩; refine ⟨_, rfl, ?_⟩; have n0_ := aM_ (Kd.R_below (by (with_reducible repeat (first | apply rA_ | apply rN_ | apply rD_)); exact HO_348001.out) hb); have n1_ := aM_ (Kd.R_below (by (with_reducible repeat (first | apply rA_ | apply rN_ | apply rD_)); exact HO_348002.out) hb); have n2_ := aM_ (Kd.R_below (by (with_reducible repeat (first | apply rA_ | apply rN_ | apply rD_)); exact HO_348003.out) hb); have n3_ := aM_ (Kd.R_below (by (with_reducible repeat (first | apply rA_ | apply rN_ | apply rD_)); exact HO_363001.out) hb); have n4_ := aM_ (Kd.R_below (by (with_reducible repeat (first | apply rA_ | apply rN_ | apply rD_)); exact HO_363002.out) hb); have n5_ := aM_ (Kd.R_below (by (with_reducible repeat (first | apply rA_ | apply rN_ | apply rD_)); exact HO_363003.out) hb); have n6_ := aM_ (blk_below (g := gb347) (o := .cells #[.bool t336, .slice Ao13 t337.length co13, .slice Ao14 t340.length co14, .slice Ao15 t343.length co15] 29 (0, 0)) (by (with_reducible repeat (first | refine kN_ ?_ _ | refine kD_ ?_ | refine kA_ ?_ _)); exact BK347.out) hb); have n7_ := aM_ (blk_below (g := gb362) (o := .cells #[.bool t351, .slice Ao22 t352.length co22, .slice Ao23 t355.length co23, .slice Ao24 t358.length co24] 29 (0, 0)) (by (with_reducible repeat (first | refine kN_ ?_ _ | refine kD_ ?_ | refine kA_ ?_ _)); exact BK362.out) hb); have n8_ := aM_ (bT_ (by repeat (first | (with_reducible first | exact HB.out | apply bA_ | apply bN_ | apply bD_ | refine bE_ ?_ GE347.out | refine bE_ ?_ GE362.out) | exact HB.out)) hb); clear HO_348001; clear HO_348002; clear HO_348003; clear HO_363001; clear HO_363002; clear HO_363003; clear BK347; clear BK362; clear HB; have HO_348001 := n0_; have HO_348002 := n1_; have HO_348003 := n2_; have HO_363001 := n3_; have HO_363002 := n4_; have HO_363003 := n5_; have BK347 := n6_; have BK362 := n7_; have HB := n8_; clear n0_ n1_ n2_ n3_ n4_ n5_ n6_ n7_ n8_; (try clear hb); (try clear hb2); (try clear hk); (try clear hi)) | ((with_reducible refine gate_callee (f := 22) rfl ?_); refine goesL_ (some 72) rfl rfl Try.func22 (by kernel_rfl) rfl #[.slice A0 l0.length c0] rfl (by (try simp only [mA_, mC_, mN_]); first | done | rfl | (simp only [lD_, lT_]; rfl)) ?_; (with_reducible refine (laws_toByteS.calls kj39 _ _ l0 t376 _ ?side1 ?side2 A60.out).mono ?_); (case side1 => repeat (first | exact (Kd.C_below HR0.out HB.out) | (with_reducible refine cA_ ?_ _) | (with_reducible refine cN_ ?_ _) | (with_reducible refine cD_ ?_))); (case side2 => exact HC0.out); rintro e w68 ⟨v377, rfl, ho0, hb⟩; refine ⟨_, rfl, ?_⟩; have n0_ := aM_ (Kd.R_below (by (with_reducible repeat (first | apply rA_ | apply rN_ | apply rD_)); exact HO_348001.out) hb); have n1_ := aM_ (Kd.R_below (by (with_reducible repeat (first | apply rA_ | apply rN_ | apply rD_)); exact HO_348002.out) hb); have n2_ := aM_ (Kd.R_below (by (with_reducible repeat (first | apply rA_ | apply rN_ | apply rD_)); exact HO_348003.out) hb); have n3_ := aM_ (Kd.R_below (by (with_reducible repeat (first | apply rA_ | apply rN_ | apply rD_)); exact HO_363001.out) hb); have n4_ := aM_ (Kd.R_below (by (with_reducible repeat (first | apply rA_ | apply rN_ | apply rD_)); exact HO_363002.out) hb); have n5_ := aM_ (Kd.R_below (by (with_reducible repeat (first | apply rA_ | apply rN_ | apply rD_)); exact HO_363003.out) hb); have n6_ := aM_ (Kd.R_lower ho0 (bS_ (by repeat (first | (with_reducible first | exact HB.out | apply bA_ | apply bN_ | apply bD_ | refine bE_ ?_ GE347.out | refine bE_ ?_ GE362.out) | exact HB.out)))); have n7_ := aM_ (blk_below (g := gb347) (o := .cells #[.bool t336, .slice Ao13 t337.length co13, .slice Ao14 t340.length co14, .slice Ao15 t343.length co15] 29 (0, 0)) (by (with_reducible repeat (first | refine kN_ ?_ _ | refine kD_ ?_ | refine kA_ ?_ _)); exact BK347.out) hb); have n8_ := aM_ (blk_below (g := gb362) (o := .cells #[.bool t351, .slice Ao22 t352.length co22, .slice Ao23 t355.length co23, .slice Ao24 t358.length co24] 29 (0, 0)) (by (with_reducible repeat (first | refine kN_ ?_ _ | refine kD_ ?_ | refine kA_ ?_ _)); exact BK362.out) hb); have n9_ := aM_ (bT_ (by repeat (first | (with_reducible first | exact HB.out | apply bA_ | apply bN_ | apply bD_ | refine bE_ ?_ GE347.out | refine bE_ ?_ GE362.out) | exact HB.out)) hb); clear HO_348001; clear HO_348002; clear HO_348003; clear HO_363001; clear HO_363002; clear HO_363003; clear BK347; clear BK362; clear HB; have HO_348001 := n0_; have HO_348002 := n1_; have HO_348003 := n2_; have HO_363001 := n3_; have HO_363002 := n4_; have HO_363003 := n5_; have HO378 := n6_; have BK347 := n7_; have BK362 := n8_; have HB := n9_; clear n0_ n1_ n2_ n3_ n4_ n5_ n6_ n7_ n8_ n9_; (try clear hb); (try clear hb2); (try clear hk); (try clear hi); (try clear ho0); obtain ⟨Ao69, co69, eo69⟩ := Kd.R_slice HO378.out; subst eo69) | ((with_reducible refine gate_callee (f := 23) rfl ?_); refine goesL_ (some 73) rfl rfl Try.func23 (by kernel_rfl) rfl #[.slice Ao69 t376.length co69] rfl (by (try simp only [mA_, mC_, mN_]); first | done | rfl | (simp only [lD_, lT_]; rfl)) ?_; (with_reducible refine (impl_GetNode.calls kj39 _ _ t376 t379 t380 t383 t386 t389 _ ?side1 ?side2 A61.out).mono ?_); (case side1 => repeat (first | exact (Kd.R_reads' HO378.out).2.2 | (with_reducible refine cA_ ?_ _) | (with_reducible refine cN_ ?_ _) | (with_reducible refine cD_ ?_))); (case side2 => exact (Kd.R_reads' HO378.out).2.1); rintro e w70 ⟨v381, v384, v387, rfl, ho0, ho1, ho2, hb⟩; refine ⟨_, rfl, ?_⟩; have n0_ := aM_ (Kd.R_mono (Kd.R_told (Kd.R_told (Kd.R_old (by (with_reducible repeat (first | apply rA_ | apply rN_ | apply rD_)); exact HO_348001.out) hb) (Kd.R_base ho0)) (Kd.R_base ho1)) (fun _ h_ => h_.1)); have n1_ := aM_ (Kd.R_mono (Kd.R_told (Kd.R_told (Kd.R_old (by (with_reducible repeat (first | apply rA_ | apply rN_ | apply rD_)); exact HO_348002.out) hb) (Kd.R_base ho0)) (Kd.R_base ho1)) (fun _ h_ => h_.1)); have n2_ := aM_ (Kd.R_elder' (by (with_reducible repeat (first | apply rA_ | apply rN_ | apply rD_)); exact HO_348003.out) (Kd.R_base ho2) hb); have n3_ := aM_ (Kd.R_mono (Kd.R_told (Kd.R_told (Kd.R_old (by (with_reducible repeat (first | apply rA_ | apply rN_ | apply rD_)); exact HO_363001.out) hb) (Kd.R_base ho0)) (Kd.R_base ho1)) (fun _ h_ => h_.1)); have n4_ := aM_ (Kd.R_mono (Kd.R_told (Kd.R_told (Kd.R_old (by (with_reducible repeat (first | apply rA_ | apply rN_ | apply rD_)); exact HO_363002.out) hb) (Kd.R_base ho0)) (Kd.R_base ho1)) (fun _ h_ => h_.1)); have n5_ := aM_ (Kd.R_elder' (by (with_reducible repeat (first | apply rA_ | apply rN_ | apply rD_)); exact HO_363003.out) (Kd.R_base ho2) hb); have n6_ := aM_ (Kd.R_below (by (with_reducible repeat (first | apply rA_ | apply rN_ | apply rD_)); exact HO378.out) hb); have n7_ := aM_ (Kd.R_lower (Kd.R_new' (Kd.R_new' (Kd.R_new' (Kd.R_new' ho0 (Kd.R_lt (by (with_reducible repeat (first | apply rA_ | apply rN_ | apply rD_)); exact HO_348001.out))) (Kd.R_lt (by (with_reducible repeat (first | apply rA_ | apply rN_ | apply rD_)); exact HO_348002.out))) (Kd.R_lt (by (with_reducible repeat (first | apply rA_ | apply rN_ | apply rD_)); exact HO_363001.out))) (Kd.R_lt (by (with_reducible repeat (first | apply rA_ | apply rN_ | apply rD_)); exact HO_363002.out))) (bS_ (by repeat (first | (with_reducible first | exact HB.out | apply bA_ | apply bN_ | apply bD_ | refine bE_ ?_ GE347.out | refine bE_ ?_ GE362.out) | exact HB.out)))); have n8_ := aM_ (Kd.R_lower (Kd.R_new' (Kd.R_new' (Kd.R_new' (Kd.R_new' ho1 (Kd.R_lt (by (with_reducible repeat (first | apply rA_ | apply rN_ | apply rD_)); exact HO_348001.out))) (Kd.R_lt (by (with_reducible repeat (first | apply rA_ | apply rN_ | apply rD_)); exact HO_348002.out))) (Kd.R_lt (by (with_reducible repeat (first | apply rA_ | apply rN_ | apply rD_)); exact HO_363001.out))) (Kd.R_lt (by (with_reducible repeat (first | apply rA_ | apply rN_ | apply rD_)); exact HO_363002.out))) (bS_ (by repeat (first | (with_reducible first | exact HB.out | apply bA_ | apply bN_ | apply bD_ | refine bE_ ?_ GE347.out | refine bE_ ?_ GE362.out) | exact HB.out)))); have n9_ := aM_ (Kd.R_lower (Kd.R_new' (Kd.R_new' ho2 (Kd.R_lt (by (with_reducible repeat (first | apply rA_ | apply rN_ | apply rD_)); exact HO_348003.out))) (Kd.R_lt (by (with_reducible repeat (first | apply rA_ | apply rN_ | apply rD_)); exact HO_363003.out))) (bS_ (by repeat (first | (with_reducible first | exact HB.out | apply bA_ | apply bN_ | apply bD_ | refine bE_ ?_ GE347.out | refine bE_ ?_ GE362.out) | exact HB.out)))); have n10_ := aM_ (blk_below (g := gb347) (o := .cells #[.bool t336, .slice Ao13 t337.length co13, .slice Ao14 t340.length co14, .slice Ao15 t343.length co15] 29 (0, 0)) (by (with_reducible repeat (first | refine kN_ ?_ _ | refine kD_ ?_ | refine kA_ ?_ _)); exact BK347.out) hb); have n11_ := aM_ (blk_below (g := gb362) (o := .cells #[.bool t351, .slice Ao22 t352.length co22, .slice Ao23 t355.length co23, .slice Ao24 t358.length co24] 29 (0, 0)) (by (with_reducible repeat (first | refine kN_ ?_ _ | refine kD_ ?_ | refine kA_ ?_ _)); exact BK362.out) hb); have n12_ := aM_ (bT_ (by repeat (first | (with_reducible first | exact HB.out | apply bA_ | apply bN_ | apply bD_ | refine bE_ ?_ GE347.out | refine bE_ ?_ GE362.out) | exact HB.out)) hb); clear HO_348001; clear HO_348002; clear HO_348003; clear HO_363001; clear HO_363002; clear HO_363003; clear HO378; clear BK347; clear BK362; clear HB; have HO_348001 := n0_; have HO_348002 := n1_; have HO_348003 := n2_; have HO_363001 := n3_; have HO_363002 := n4_; have HO_363003 := n5_; have HO378 := n6_; have HO382 := n7_; have HO385 := n8_; have HO388 := n9_; have BK347 := n10_; have BK362 := n11_; have HB := n12_; clear n0_ n1_ n2_ n3_ n4_ n5_ n6_ n7_ n8_ n9_ n10_ n11_ n12_; (try clear hb); (try clear hb2); (try clear hk); (try clear hi); (try clear ho0); (try clear ho1); (try clear ho2)) | ((with_reducible refine gate_dst (N := 11) rfl ?_); refine box_event ?hg (N := 11) ?hd (cs := #[.bool false, .slice none 0 0, .slice none 0 0, .slice none 0 0]) (t := 29) ?hr ?_; (case hd => rfl); (case hg => rfl); (case hr => first | (go_simp; done) | (go_simp; rfl)); intro gb390 hg w71 hbox hb; have n0_ := aM_ (Kd.R_below (by (with_reducible repeat (first | apply rA_ | apply rN_ | apply rD_)); exact HO_348001.out) hb); have n1_ := aM_ (Kd.R_below (by (with_reducible repeat (first | apply rA_ | apply rN_ | apply rD_)); exact HO_348002.out) hb); have n2_ := aM_ (Kd.R_below (by (with_reducible repeat (first | apply rA_ | apply rN_ | apply rD_)); exact HO_348003.out) hb); have n3_ := aM_ (Kd.R_below (by (with_reducible repeat (first | apply rA_ | apply rN_ | apply rD_)); exact HO_363001.out) hb); have n4_ := aM_ (Kd.R_below (by (with_reducible repeat (first | apply rA_ | apply rN_ | apply rD_)); exact HO_363002.out) hb); have n5_ := aM_ (Kd.R_below (by (with_reducible repeat (first | apply rA_ | apply rN_ | apply rD_)); exact HO_363003.out) hb); have n6_ := aM_ (Kd.R_below (by (with_reducible repeat (first | apply rA_ | apply rN_ | apply rD_)); exact HO378.out) hb); have n7_ := aM_ (Kd.R_below (by (with_reducible repeat (first | apply rA_ | apply rN_ | apply rD_)); exact HO382.out) hb); have n8_ := aM_ (Kd.R_below (by (with_reducible repeat (first | apply rA_ | apply rN_ | apply rD_)); exact HO385.out) hb); have n9_ := aM_ (Kd.R_below (by (with_reducible repeat (first | apply rA_ | apply rN_ | apply rD_)); exact HO388.out) hb); have n10_ := aM_ (blk_below (g := gb347) (o := .cells #[.bool t336, .slice Ao13 t337.length co13, .slice Ao14 t340.length co14, .slice Ao15 t343.length co15] 29 (0, 0)) (by (with_reducible repeat (first | refine kN_ ?_ _ | refine kD_ ?_ | refine kA_ ?_ _)); exact BK347.out) hb); have n11_ := aM_ (blk_below (g := gb362) (o := .cells #[.bool t351, .slice Ao22 t352.length co22, .slice Ao23 t355.length co23, .slice Ao24 t358.length co24] 29 (0, 0)) (by (with_reducible repeat (first | refine kN_ ?_ _ | refine kD_ ?_ | refine kA_ ?_ _)); exact BK362.out) hb); have n12_ := aM_ (bT_ (by repeat (first | (with_reducible first | exact HB.out | apply bA_ | apply bN_ | apply bD_ | refine bE_ ?_ GE347.out | refine bE_ ?_ GE362.out) | exact HB.out)) hb); have n13_ := aM_ (hbox); have n14_ := aM_ ((by rw [hg]; exact (bS_ (by repeat (first | (with_reducible first | exact HB.out | apply bA_ | apply bN_ | apply bD_ | refine bE_ ?_ GE347.out | refine bE_ ?_ GE362.out) | exact HB.out))) : w.heap.size ≤ gb390)); have n15_ := aM_ ((by rw [hg]; exact (bS_ (by repeat (first | (with_reducible first | exact HB.out | apply bA_ | apply bN_ | apply bD_ | refine bE_ ?_ GE347.out | refine bE_ ?_ GE362.out) | exact HB.out))) : w.heap.size ≤ gb390)); have n16_ := aM_ ((by rw [hg]; exact Nat.ne_of_lt (blk_lt (g := gb347) (o := .cells #[.bool t336, .slice Ao13 t337.length co13, .slice Ao14 t340.length co14, .slice Ao15 t343.length co15] 29 (0, 0)) (by (with_reducible repeat (first | refine kN_ ?_ _ | refine kD_ ?_ | refine kA_ ?_ _)); exact BK347.out)) : gb347 ≠ gb390)); have n17_ := aM_ ((by rw [hg]; exact Nat.ne_of_gt (blk_lt (g := gb347) (o := .cells #[.bool t336, .slice Ao13 t337.length co13, .slice Ao14 t340.length co14, .slice Ao15 t343.length co15] 29 (0, 0)) (by (with_reducible repeat (first | refine kN_ ?_ _ | refine kD_ ?_ | refine kA_ ?_ _)); exact BK347.out)) : gb390 ≠ gb347)); have n18_ := aM_ ((by rw [hg]; exact Nat.ne_of_lt (blk_lt (g := gb362) (o := .cells #[.bool t351, .slice Ao22 t352.length co22, .slice Ao23 t355.length co23, .slice Ao24 t358.length co24] 29 (0, 0)) (by (with_reducible repeat (first | refine kN_ ?_ _ | refine kD_ ?_ | refine kA_ ?_ _)); exact BK362.out)) : gb362 ≠ gb390)); have n19_ := aM_ ((by rw [hg]; exact Nat.ne_of_gt (blk_lt (g := gb362) (o := .cells #[.bool t351, .slice Ao22 t352.length co22, .slice Ao23 t355.length co23, .slice Ao24 t358.length co24] 29 (0, 0)) (by (with_reducible repeat (first | refine kN_ ?_ _ | refine kD_ ?_ | refine kA_ ?_ _)); exact BK362.out)) : gb390 ≠ gb362)); clear HO_348001; clear HO_348002; clear HO_348003; clear HO_363001; clear HO_363002; clear HO_363003; clear HO378; clear HO382; clear HO385; clear HO388; clear BK347; clear BK362; clear HB; have HO_348001 := n0_; have HO_348002 := n1_; have HO_348003 := n2_; have HO_363001 := n3_; have HO_363002 := n4_; have HO_363003 := n5_; have HO378 := n6_; have HO382 := n7_; have HO385 := n8_; have HO388 := n9_; have BK347 := n10_; have BK362 := n11_; have HB := n12_; have BK390 := n13_; have GW390 := n14_; have GE390 := n15_; have NB347_390 := n16_; have NB390_347 := n17_; have NB362_390 := n18_; have NB390_362 := n19_; clear n0_ n1_ n2_ n3_ n4_ n5_ n6_ n7_ n8_ n9_ n10_ n11_ n12_ n13_ n14_ n15_ n16_ n17_ n18_ n19_; clear hb hbox hg; have hnb72 := NB390_347.out; have hnc72 := NB347_390.out; have hnb73 := NB390_362.out; have hnc73 := NB362_390.out; have hcz74_0 : w71.cell? ⟨gb390, 0, none⟩ = some (.bool false) := (kC_ BK390.out 0).trans rfl; have hcz74_1 : w71.cell? ⟨gb390, 1, none⟩ = some (.slice none 0 0) := (kC_ BK390.out 1).trans rfl; have hcz74_2 : w71.cell? ⟨gb390, 2, none⟩ = some (.slice none 0 0) := (kC_ BK390.out 2).trans rfl; have hcz74_3 : w71.cell? ⟨gb390, 3, none⟩ = some (.slice none 0 0) := (kC_ BK390.out 3).trans rfl; have hfz74_0 := kF_ BK390.out 0; have hfz74_1 := kF_ BK390.out 1; have hfz74_2 := kF_ BK390.out 2; have hfz74_3 := kF_ BK390.out 3; obtain ⟨Ao75, co75, eo75⟩ := Kd.R_slice HO382.out; subst eo75; obtain ⟨Ao76, co76, eo76⟩ := Kd.R_slice HO385.out; subst eo76; obtain ⟨Ao77, co77, eo77⟩ := Kd.R_slice HO388.out; subst eo77))
           (try simp only [Act.put, sI_, sZ_, sS_])
           go_cut [84] (fun v84 wc => ∃ (kq : Nat) (x84_61 : Bool), v84 = .bool x84_61 ∧ Aside0 (laws_FnExactGetNode.j2 kq t371 x84_61 t351 t372 t373 t374 = some r) ∧ Aside0 (kq ≤ kj39) ∧ Aside0 (Kd.R Kd.string 9 wc w.heap.size (fun k_ => some k_ ≠ ((.slice Ao14 t340.length co14) : Value).ownBlock ∧ some k_ ≠ ((.slice Ao22 t352.length co22) : Value).ownBlock ∧ some k_ ≠ ((.slice Ao23 t355.length co23) : Value).ownBlock ∧ some k_ ≠ ((.slice Ao75 t380.length co75) : Value).ownBlock ∧ some k_ ≠ ((.slice Ao76 t383.length co76) : Value).ownBlock) (.slice Ao13 t337.length co13) t337) ∧ Aside0 (Kd.R Kd.string 9 wc w.heap.size (fun k_ => some k_ ≠ ((.slice Ao13 t337.length co13) : Value).ownBlock ∧ some k_ ≠ ((.slice Ao22 t352.length co22) : Value).ownBlock ∧ some k_ ≠ ((.slice Ao23 t355.length co23) : Value).ownBlock ∧ some k_ ≠ ((.slice Ao75 t380.length co75) : Value).ownBlock ∧ some k_ ≠ ((.slice Ao76 t383.length co76) : Value).ownBlock) (.slice Ao14 t340.length co14) t340) ∧ Aside0 (Kd.R (Kd.int .i64) 3 wc w.heap.size (fun k_ => some k_ ≠ ((.slice Ao24 t358.length co24) : Value).ownBlock ∧ some k_ ≠ ((.slice Ao77 t386.length co77) : Value).ownBlock) (.slice Ao15 t343.length co15) t343) ∧ Aside0 (Kd.R Kd.string 9 wc w.heap.size (fun k_ => some k_ ≠ ((.slice Ao13 t337.length co13) : Value).ownBlock ∧ some k_ ≠ ((.slice Ao14 t340.length co14) : Value).ownBlock ∧ some k_ ≠ ((.slice Ao23 t355.length co23) : Value).ownBlock ∧ some k_ ≠ ((.slice Ao75 t380.length co75) : Value).ownBlock ∧ some k_ ≠ ((.slice Ao76 t383.length co76) : Value).ownBlock) (.slice Ao22 t352.length co22) t372) ∧ Aside0 (Kd.R Kd.string 9 wc w.heap.size (fun k_ => some k_ ≠ ((.slice Ao13 t337.length co13) : Value).ownBlock ∧ some k_ ≠ ((.slice Ao14 t340.length co14) : Value).ownBlock ∧ some k_ ≠ ((.slice Ao22 t352.length co22) : Value).ownBlock ∧ some k_ ≠ ((.slice Ao75 t380.length co75) : Value).ownBlock ∧ some k_ ≠ ((.slice Ao76 t383.length co76) : Value).ownBlock) (.slice Ao23 t355.length co23) t373) ∧ Aside0 (Kd.R (Kd.int .i64) 3 wc w.heap.size (fun k_ => some k_ ≠ ((.slice Ao15 t343.length co15) : Value).ownBlock ∧ some k_ ≠ ((.slice Ao77 t386.length co77) : Value).ownBlock) (.slice Ao24 t358.length co24) t374) ∧ Aside0 (Kd.R Kd.string 9 wc w.heap.size (fun k_ => some k_ ≠ ((.slice Ao13 t337.length co13) : Value).ownBlock ∧ some k_ ≠ ((.slice Ao14 t340.length co14) : Value).ownBlock ∧ some k_ ≠ ((.slice Ao22 t352.length co22) : Value).ownBlock ∧ some k_ ≠ ((.slice Ao23 t355.length co23) : Value).ownBlock ∧ some k_ ≠ ((.slice Ao76 t383.length co76) : Value).ownBlock) (.slice Ao75 t380.length co75) t380) ∧ Aside0 (Kd.R Kd.string 9 wc w.heap.size (fun k_ => some k_ ≠ ((.slice Ao13 t337.length co13) : Value).ownBlock ∧ some k_ ≠ ((.slice Ao14 t340.length co14) : Value).ownBlock ∧ some k_ ≠ ((.slice Ao22 t352.length co22) : Value).ownBlock ∧ some k_ ≠ ((.slice Ao23 t355.length co23) : Value).ownBlock ∧ some k_ ≠ ((.slice Ao75 t380.length co75) : Value).ownBlock) (.slice Ao76 t383.length co76) t383) ∧ Aside0 (Kd.R (Kd.int .i64) 3 wc w.heap.size (fun k_ => some k_ ≠ ((.slice Ao15 t343.length co15) : Value).ownBlock ∧ some k_ ≠ ((.slice Ao24 t358.length co24) : Value).ownBlock) (.slice Ao77 t386.length co77) t386) ∧ Aside0 (wc.heap[gb347]? = some (.cells #[.bool t336, (.slice Ao13 t337.length co13), (.slice Ao14 t340.length co14), (.slice Ao15 t343.length co15)] 29 (0, 0))) ∧ Aside0 (wc.heap[gb362]? = some (.cells #[.bool t351, (.slice Ao22 t352.length co22), (.slice Ao23 t355.length co23), (.slice Ao24 t358.length co24)] 29 (0, 0))) ∧ Aside0 (wc.heap[gb390]? = some (.cells #[.bool t379, (.slice Ao75 t380.length co75), (.slice Ao76 t383.length co76), (.slice Ao77 t386.length co77)] 29 (0, 0))) ∧ Aside0 (Below w.heap.size w wc))
           case first =>
            have H := HC62.out
            clear HC62
            replace H := oB_ H
            obtain ⟨t391, A780, H⟩ := H
            replace H : (if t391 = true then (laws_FnExactGetNode.j2 kj39 t371 (t389 != t346) t351 t372 t373 t374) else (laws_FnExactGetNode.j2 kj39 t371 true t351 t372 t373 t374)) = some r := H
            have A78 := aM_ A780
            clear A780
            by_cases c79 : t391 = true
            ·subst c79
             have H1 : (laws_FnExactGetNode.j2 kj39 t371 (t389 != t346) t351 t372 t373 t374) = some r := by rw [if_pos rfl] at H; exact H
             clear H
             have H := H1
             clear H1
             have H' := aM_ H
             clear H
             have hnb80 := NB390_347.out
             have hnc80 := NB347_390.out
             have hnb81 := NB390_362.out
             have hnc81 := NB362_390.out
             have hcz82_0 : w71.cell? ⟨gb390, 0, none⟩ = some (.bool false) := (kC_ BK390.out 0).trans rfl
             have hcz82_1 : w71.cell? ⟨gb390, 1, none⟩ = some (.slice none 0 0) := (kC_ BK390.out 1).trans rfl
             have hcz82_2 : w71.cell? ⟨gb390, 2, none⟩ = some (.slice none 0 0) := (kC_ BK390.out 2).trans rfl
             have hcz82_3 : w71.cell? ⟨gb390, 3, none⟩ = some (.slice none 0 0) := (kC_ BK390.out 3).trans rfl
             have hfz82_0 := kF_ BK390.out 0
             have hfz82_1 := kF_ BK390.out 1
             have hfz82_2 := kF_ BK390.out 2
             have hfz82_3 := kF_ BK390.out 3
             have hnb83 := NB347_362.out
             have hnc83 := NB362_347.out
             have hcz84_0 : w71.cell? ⟨gb347, 0, none⟩ = some (.bool t336) := (kC_ BK347.out 0).trans rfl
             have hcz84_1 : w71.cell? ⟨gb347, 1, none⟩ = some (.slice Ao13 t337.length co13) := (kC_ BK347.out 1).trans rfl
             have hcz84_2 : w71.cell? ⟨gb347, 2, none⟩ = some (.slice Ao14 t340.length co14) := (kC_ BK347.out 2).trans rfl
             have hcz84_3 : w71.cell? ⟨gb347, 3, none⟩ = some (.slice Ao15 t343.length co15) := (kC_ BK347.out 3).trans rfl
             have hfz84_0 := kF_ BK347.out 0
             have hfz84_1 := kF_ BK347.out 1
             have hfz84_2 := kF_ BK347.out 2
             have hfz84_3 := kF_ BK347.out 3
             go_wp2_with (first | ((with_reducible refine gate_callee (f := 17) rfl ?_); refine goesL_ (some 78) rfl rfl Try.func17 (by kernel_rfl) rfl #[.agg #[.bool t379, .slice Ao75 t380.length co75, .slice Ao76 t383.length co76, .slice Ao77 t386.length co77], .agg #[.bool t336, .slice Ao13 t337.length co13, .slice Ao14 t340.length co14, .slice Ao15 t343.length co15]] rfl (by (try simp only [mA_, mC_, mN_]); first | done | rfl | (simp only [lD_, lT_]; rfl)) ?_; (with_reducible refine (laws_eqNode.calls kj39 t379 _ _ t380 _ _ t383 _ _ t386 t336 _ _ t337 _ _ t340 _ _ t343 true _ ?side1 ?side2 ?side3 ?side4 ?side5 ?side6 ?side7 ?side8 ?side9 ?side10 ?side11 ?side12 A78.out).mono ?_); (case side1 => refine (Kd.R_reads' (e := 9) (base := w.heap.size) (ok := fun k_ => ((((some k_ ≠ (.slice Ao76 t383.length co76 : Value).ownBlock ∧ some k_ ≠ (.slice Ao13 t337.length co13 : Value).ownBlock) ∧ some k_ ≠ (.slice Ao14 t340.length co14 : Value).ownBlock) ∧ some k_ ≠ (.slice Ao22 t352.length co22 : Value).ownBlock) ∧ some k_ ≠ (.slice Ao23 t355.length co23 : Value).ownBlock)) (n := t380.length) (c := co75) ?_).2.2; exact (by (with_reducible repeat (first | apply rA_ | apply rN_ | apply rD_)); exact (Kd.R_mono (Kd.R_far (p := ⟨gb390, 3, none⟩) (Kd.R_far (p := ⟨gb390, 2, none⟩) (Kd.R_far (p := ⟨gb390, 1, none⟩) (Kd.R_far (p := ⟨gb390, 0, none⟩) (Kd.R_types HO382.out BK390.out (by decide)) (fun _ hk => hk.2) (.bool t379)) (fun _ hk => hk.2) (.slice Ao75 t380.length co75)) (fun _ hk => hk.2) (.slice Ao76 t383.length co76)) (fun _ hk => hk.2) (.slice Ao77 t386.length co77)) (fun _ h_ => h_.1)))); (case side2 => exact (Kd.R_reads' HO382.out).2.1); (case side3 => refine (Kd.R_reads' (e := 9) (base := w.heap.size) (ok := fun k_ => ((((some k_ ≠ (.slice Ao75 t380.length co75 : Value).ownBlock ∧ some k_ ≠ (.slice Ao13 t337.length co13 : Value).ownBlock) ∧ some k_ ≠ (.slice Ao14 t340.length co14 : Value).ownBlock) ∧ some k_ ≠ (.slice Ao22 t352.length co22 : Value).ownBlock) ∧ some k_ ≠ (.slice Ao23 t355.length co23 : Value).ownBlock)) (n := t383.length) (c := co76) ?_).2.2; exact (by (with_reducible repeat (first | apply rA_ | apply rN_ | apply rD_)); exact (Kd.R_mono (Kd.R_far (p := ⟨gb390, 3, none⟩) (Kd.R_far (p := ⟨gb390, 2, none⟩) (Kd.R_far (p := ⟨gb390, 1, none⟩) (Kd.R_far (p := ⟨gb390, 0, none⟩) (Kd.R_types HO385.out BK390.out (by decide)) (fun _ hk => hk.2) (.bool t379)) (fun _ hk => hk.2) (.slice Ao75 t380.length co75)) (fun _ hk => hk.2) (.slice Ao76 t383.length co76)) (fun _ hk => hk.2) (.slice Ao77 t386.length co77)) (fun _ h_ => h_.1)))); (case side4 => exact (Kd.R_reads' HO385.out).2.1); (case side5 => refine (Kd.R_reads' (e := 3) (base := w.heap.size) (ok := fun k_ => ((True ∧ some k_ ≠ (.slice Ao15 t343.length co15 : Value).ownBlock) ∧ some k_ ≠ (.slice Ao24 t358.length co24 : Value).ownBlock)) (n := t386.length) (c := co77) ?_).2.2; exact (by (with_reducible repeat (first | apply rA_ | apply rN_ | apply rD_)); exact (Kd.R_mono (Kd.R_far (p := ⟨gb390, 3, none⟩) (Kd.R_far (p := ⟨gb390, 2, none⟩) (Kd.R_far (p := ⟨gb390, 1, none⟩) (Kd.R_far (p := ⟨gb390, 0, none⟩) (Kd.R_types HO388.out BK390.out (by decide)) (fun _ hk => hk.2) (.bool t379)) (fun _ hk => hk.2) (.slice Ao75 t380.length co75)) (fun _ hk => hk.2) (.slice Ao76 t383.length co76)) (fun _ hk => hk.2) (.slice Ao77 t386.length co77)) (fun _ h_ => h_.1)))); (case side6 => exact (Kd.R_reads' HO388.out).2.1); (case side7 => refine (Kd.R_reads' (e := 9) (base := w.heap.size) (ok := fun k_ => (((some k_ ≠ (.slice Ao14 t340.length co14 : Value).ownBlock ∧ (some k_ ≠ (.slice Ao22 t352.length co22 : Value).ownBlock ∧ some k_ ≠ (.slice Ao23 t355.length co23 : Value).ownBlock)) ∧ some k_ ≠ (.slice Ao75 t380.length co75 : Value).ownBlock) ∧ some k_ ≠ (.slice Ao76 t383.length co76 : Value).ownBlock)) (n := t337.length) (c := co13) ?_).2.2; exact (by (with_reducible repeat (first | apply rA_ | apply rN_ | apply rD_)); exact (Kd.R_mono (Kd.R_far (p := ⟨gb390, 3, none⟩) (Kd.R_far (p := ⟨gb390, 2, none⟩) (Kd.R_far (p := ⟨gb390, 1, none⟩) (Kd.R_far (p := ⟨gb390, 0, none⟩) (Kd.R_types HO_348001.out BK390.out (by decide)) (fun _ hk => hk.2) (.bool t379)) (fun _ hk => hk.2) (.slice Ao75 t380.length co75)) (fun _ hk => hk.2) (.slice Ao76 t383.length co76)) (fun _ hk => hk.2) (.slice Ao77 t386.length co77)) (fun _ h_ => h_.1)))); (case side8 => exact (Kd.R_reads' HO_348001.out).2.1); (case side9 => refine (Kd.R_reads' (e := 9) (base := w.heap.size) (ok := fun k_ => (((some k_ ≠ (.slice Ao13 t337.length co13 : Value).ownBlock ∧ (some k_ ≠ (.slice Ao22 t352.length co22 : Value).ownBlock ∧ some k_ ≠ (.slice Ao23 t355.length co23 : Value).ownBlock)) ∧ some k_ ≠ (.slice Ao75 t380.length co75 : Value).ownBlock) ∧ some k_ ≠ (.slice Ao76 t383.length co76 : Value).ownBlock)) (n := t340.length) (c := co14) ?_).2.2; exact (by (with_reducible repeat (first | apply rA_ | apply rN_ | apply rD_)); exact (Kd.R_mono (Kd.R_far (p := ⟨gb390, 3, none⟩) (Kd.R_far (p := ⟨gb390, 2, none⟩) (Kd.R_far (p := ⟨gb390, 1, none⟩) (Kd.R_far (p := ⟨gb390, 0, none⟩) (Kd.R_types HO_348002.out BK390.out (by decide)) (fun _ hk => hk.2) (.bool t379)) (fun _ hk => hk.2) (.slice Ao75 t380.length co75)) (fun _ hk => hk.2) (.slice Ao76 t383.length co76)) (fun _ hk => hk.2) (.slice Ao77 t386.length co77)) (fun _ h_ => h_.1)))); (case side10 => exact (Kd.R_reads' HO_348002.out).2.1); (case side11 => refine (Kd.R_reads' (e := 3) (base := w.heap.size) (ok := fun k_ => (some k_ ≠ (.slice Ao24 t358.length co24 : Value).ownBlock ∧ some k_ ≠ (.slice Ao77 t386.length co77 : Value).ownBlock)) (n := t343.length) (c := co15) ?_).2.2; exact (by (with_reducible repeat (first | apply rA_ | apply rN_ | apply rD_)); exact (Kd.R_mono (Kd.R_far (p := ⟨gb390, 3, none⟩) (Kd.R_far (p := ⟨gb390, 2, none⟩) (Kd.R_far (p := ⟨gb390, 1, none⟩) (Kd.R_far (p := ⟨gb390, 0, none⟩) (Kd.R_types HO_348003.out BK390.out (by decide)) (fun _ hk => hk.2) (.bool t379)) (fun _ hk => hk.2) (.slice Ao75 t380.length co75)) (fun _ hk => hk.2) (.slice Ao76 t383.length co76)) (fun _ hk => hk.2) (.slice Ao77 t386.length co77)) (fun _ h_ => h_.1)))); (case side12 => exact (Kd.R_reads' HO_348003.out).2.1); rintro e w85 ⟨rfl, hb⟩; refine ⟨_, rfl, ?_⟩; have n0_ := aM_ (Kd.R_below (by (with_reducible repeat (first | apply rA_ | apply rN_ | apply rD_)); exact (Kd.R_mono (Kd.R_far (p := ⟨gb390, 3, none⟩) (Kd.R_far (p := ⟨gb390, 2, none⟩) (Kd.R_far (p := ⟨gb390, 1, none⟩) (Kd.R_far (p := ⟨gb390, 0, none⟩) (Kd.R_types HO_348001.out BK390.out (by decide)) (fun _ hk => hk.2) (.bool t379)) (fun _ hk => hk.2) (.slice Ao75 t380.length co75)) (fun _ hk => hk.2) (.slice Ao76 t383.length co76)) (fun _ hk => hk.2) (.slice Ao77 t386.length co77)) (fun _ h_ => h_.1))) hb); have n1_ := aM_ (Kd.R_below (by (with_reducible repeat (first | apply rA_ | apply rN_ | apply rD_)); exact (Kd.R_mono (Kd.R_far (p := ⟨gb390, 3, none⟩) (Kd.R_far (p := ⟨gb390, 2, none⟩) (Kd.R_far (p := ⟨gb390, 1, none⟩) (Kd.R_far (p := ⟨gb390, 0, none⟩) (Kd.R_types HO_348002.out BK390.out (by decide)) (fun _ hk => hk.2) (.bool t379)) (fun _ hk => hk.2) (.slice Ao75 t380.length co75)) (fun _ hk => hk.2) (.slice Ao76 t383.length co76)) (fun _ hk => hk.2) (.slice Ao77 t386.length co77)) (fun _ h_ => h_.1))) hb); have n2_ := aM_ (Kd.R_below (by (with_reducible repeat (first | apply rA_ | apply rN_ | apply rD_)); exact (Kd.R_mono (Kd.R_far (p := ⟨gb390, 3, none⟩) (Kd.R_far (p := ⟨gb390, 2, none⟩) (Kd.R_far (p := ⟨gb390, 1, none⟩) (Kd.R_far (p := ⟨gb390, 0, none⟩) (Kd.R_types HO_348003.out BK390.out (by decide)) (fun _ hk => hk.2) (.bool t379)) (fun _ hk => hk.2) (.slice Ao75 t380.length co75)) (fun _ hk => hk.2) (.slice Ao76 t383.length co76)) (fun _ hk => hk.2) (.slice Ao77 t386.length co77)) (fun _ h_ => h_.1))) hb); have n3_ := aM_ (Kd.R_below (by (with_reducible repeat (first | apply rA_ | apply rN_ | apply rD_)); exact (Kd.R_mono (Kd.R_far (p := ⟨gb390, 3, none⟩) (Kd.R_far (p := ⟨gb390, 2, none⟩) (Kd.R_far (p := ⟨gb390, 1, none⟩) (Kd.R_far (p := ⟨gb390, 0, none⟩) (Kd.R_types HO_363001.out BK390.out (by decide)) (fun _ hk => hk.2) (.bool t379)) (fun _ hk => hk.2) (.slice Ao75 t380.length co75)) (fun _ hk => hk.2) (.slice Ao76 t383.length co76)) (fun _ hk => hk.2) (.slice Ao77 t386.length co77)) (fun _ h_ => h_.1))) hb); have n4_ := aM_ (Kd.R_below (by (with_reducible repeat (first | apply rA_ | apply rN_ | apply rD_)); exact (Kd.R_mono (Kd.R_far (p := ⟨gb390, 3, none⟩) (Kd.R_far (p := ⟨gb390, 2, none⟩) (Kd.R_far (p := ⟨gb390, 1, none⟩) (Kd.R_far (p := ⟨gb390, 0, none⟩) (Kd.R_types HO_363002.out BK390.out (by decide)) (fun _ hk => hk.2) (.bool t379)) (fun _ hk => hk.2) (.slice Ao75 t380.length co75)) (fun _ hk => hk.2) (.slice Ao76 t383.length co76)) (fun _ hk => hk.2) (.slice Ao77 t386.length co77)) (fun _ h_ => h_.1))) hb); have n5_ := aM_ (Kd.R_below (by (with_reducible repeat (first | apply rA_ | apply rN_ | apply rD_)); exact (Kd.R_mono (Kd.R_far (p := ⟨gb390, 3, none⟩) (Kd.R_far (p := ⟨gb390, 2, none⟩) (Kd.R_far (p := ⟨gb390, 1, none⟩) (Kd.R_far (p := ⟨gb390, 0, none⟩) (Kd.R_types HO_363003.out BK390.out (by decide)) (fun _ hk => hk.2) (.bool t379)) (fun _ hk => hk.2) (.slice Ao75 t380.length co75)) (fun _ hk => hk.2) (.slice Ao76 t383.length co76)) (fun _ hk => hk.2) (.slice Ao77 t386.length co77)) (fun _ h_ => h_.1))) hb); have n6_ := aM_ (Kd.R_below (by (with_reducible repeat (first | apply rA_ | apply rN_ | apply rD_)); exact (Kd.R_mono (Kd.R_far (p := ⟨gb390, 3, none⟩) (Kd.R_far (p := ⟨gb390, 2, none⟩) (Kd.R_far (p := ⟨gb390, 1, none⟩) (Kd.R_far (p := ⟨gb390, 0, none⟩) (Kd.R_types HO378.out BK390.out (by decide)) (fun _ hk => hk.2) (.bool t379)) (fun _ hk => hk.2) (.slice Ao75 t380.length co75)) (fun _ hk => hk.2) (.slice Ao76 t383.length co76)) (fun _ hk => hk.2) (.slice Ao77 t386.length co77)) (fun _ h_ => h_.1))) hb); have n7_ := aM_ (Kd.R_below (by (with_reducible repeat (first | apply rA_ | apply rN_ | apply rD_)); exact (Kd.R_mono (Kd.R_far (p := ⟨gb390, 3, none⟩) (Kd.R_far (p := ⟨gb390, 2, none⟩) (Kd.R_far (p := ⟨gb390, 1, none⟩) (Kd.R_far (p := ⟨gb390, 0, none⟩) (Kd.R_types HO382.out BK390.out (by decide)) (fun _ hk => hk.2) (.bool t379)) (fun _ hk => hk.2) (.slice Ao75 t380.length co75)) (fun _ hk => hk.2) (.slice Ao76 t383.length co76)) (fun _ hk => hk.2) (.slice Ao77 t386.length co77)) (fun _ h_ => h_.1))) hb); have n8_ := aM_ (Kd.R_below (by (with_reducible repeat (first | apply rA_ | apply rN_ | apply rD_)); exact (Kd.R_mono (Kd.R_far (p := ⟨gb390, 3, none⟩) (Kd.R_far (p := ⟨gb390, 2, none⟩) (Kd.R_far (p := ⟨gb390, 1, none⟩) (Kd.R_far (p := ⟨gb390, 0, none⟩) (Kd.R_types HO385.out BK390.out (by decide)) (fun _ hk => hk.2) (.bool t379)) (fun _ hk => hk.2) (.slice Ao75 t380.length co75)) (fun _ hk => hk.2) (.slice Ao76 t383.length co76)) (fun _ hk => hk.2) (.slice Ao77 t386.length co77)) (fun _ h_ => h_.1))) hb); have n9_ := aM_ (Kd.R_below (by (with_reducible repeat (first | apply rA_ | apply rN_ | apply rD_)); exact (Kd.R_mono (Kd.R_far (p := ⟨gb390, 3, none⟩) (Kd.R_far (p := ⟨gb390, 2, none⟩) (Kd.R_far (p := ⟨gb390, 1, none⟩) (Kd.R_far (p := ⟨gb390, 0, none⟩) (Kd.R_types HO388.out BK390.out (by decide)) (fun _ hk => hk.2) (.bool t379)) (fun _ hk => hk.2) (.slice Ao75 t380.length co75)) (fun _ hk => hk.2) (.slice Ao76 t383.length co76)) (fun _ hk => hk.2) (.slice Ao77 t386.length co77)) (fun _ h_ => h_.1))) hb); have n10_ := aM_ (blk_below (g := gb347) (o := .cells #[.bool t336, .slice Ao13 t337.length co13, .slice Ao14 t340.length co14, .slice Ao15 t343.length co15] 29 (0, 0)) (by (with_reducible repeat (first | refine kN_ ?_ _ | refine kD_ ?_ | refine kA_ ?_ _)); refine blk_far ?_ NB347_390.out _; (with_reducible repeat (first | refine kN_ ?_ _ | refine kD_ ?_ | refine kA_ ?_ _)); refine blk_far ?_ NB347_390.out _; (with_reducible repeat (first | refine kN_ ?_ _ | refine kD_ ?_ | refine kA_ ?_ _)); refine blk_far ?_ NB347_390.out _; (with_reducible repeat (first | refine kN_ ?_ _ | refine kD_ ?_ | refine kA_ ?_ _)); refine blk_far ?_ NB347_390.out _; (with_reducible repeat (first | refine kN_ ?_ _ | refine kD_ ?_ | refine kA_ ?_ _)); exact BK347.out) hb); have n11_ := aM_ (blk_below (g := gb362) (o := .cells #[.bool t351, .slice Ao22 t352.length co22, .slice Ao23 t355.length co23, .slice Ao24 t358.length co24] 29 (0, 0)) (by (with_reducible repeat (first | refine kN_ ?_ _ | refine kD_ ?_ | refine kA_ ?_ _)); refine blk_far ?_ NB362_390.out _; (with_reducible repeat (first | refine kN_ ?_ _ | refine kD_ ?_ | refine kA_ ?_ _)); refine blk_far ?_ NB362_390.out _; (with_reducible repeat (first | refine kN_ ?_ _ | refine kD_ ?_ | refine kA_ ?_ _)); refine blk_far ?_ NB362_390.out _; (with_reducible repeat (first | refine kN_ ?_ _ | refine kD_ ?_ | refine kA_ ?_ _)); refine blk_far ?_ NB362_390.out _; (with_reducible repeat (first | refine kN_ ?_ _ | refine kD_ ?_ | refine kA_ ?_ _)); exact BK362.out) hb); have n12_ := aM_ (blk_below (g := gb390) (o := .cells #[.bool t379, .slice Ao75 t380.length co75, .slice Ao76 t383.length co76, .slice Ao77 t386.length co77] 29 (0, 0)) (by (with_reducible repeat (first | refine kN_ ?_ _ | refine kD_ ?_ | refine kA_ ?_ _)); refine kP_ (cs := #[.bool t379, .slice Ao75 t380.length co75, .slice Ao76 t383.length co76, .slice none 0 0]) ?_ 3 _ rfl; (with_reducible repeat (first | refine kN_ ?_ _ | refine kD_ ?_ | refine kA_ ?_ _)); refine kP_ (cs := #[.bool t379, .slice Ao75 t380.length co75, .slice none 0 0, .slice none 0 0]) ?_ 2 _ rfl; (with_reducible repeat (first | refine kN_ ?_ _ | refine kD_ ?_ | refine kA_ ?_ _)); refine kP_ (cs := #[.bool t379, .slice none 0 0, .slice none 0 0, .slice none 0 0]) ?_ 1 _ rfl; (with_reducible repeat (first | refine kN_ ?_ _ | refine kD_ ?_ | refine kA_ ?_ _)); refine kP_ (cs := #[.bool false, .slice none 0 0, .slice none 0 0, .slice none 0 0]) ?_ 0 _ rfl; (with_reducible repeat (first | refine kN_ ?_ _ | refine kD_ ?_ | refine kA_ ?_ _)); exact BK390.out) hb); have n13_ := aM_ (bT_ (by repeat (first | (with_reducible first | exact HB.out | apply bA_ | apply bN_ | apply bD_ | refine bE_ ?_ GE347.out | refine bE_ ?_ GE362.out | refine bE_ ?_ GE390.out) | exact HB.out)) hb); clear HO_348001; clear HO_348002; clear HO_348003; clear HO_363001; clear HO_363002; clear HO_363003; clear HO378; clear HO382; clear HO385; clear HO388; clear BK347; clear BK362; clear BK390; clear HB; have HO_348001 := n0_; have HO_348002 := n1_; have HO_348003 := n2_; have HO_363001 := n3_; have HO_363002 := n4_; have HO_363003 := n5_; have HO378 := n6_; have HO382 := n7_; have HO385 := n8_; have HO388 := n9_; have BK347 := n10_; have BK362 := n11_; have BK390 := n12_; have HB := n13_; clear n0_ n1_ n2_ n3_ n4_ n5_ n6_ n7_ n8_ n9_ n10_ n11_ n12_ n13_; (try clear hb); (try clear hb2); (try clear hk); (try clear hi)))
             (first | go_meet | (refine Met.intro ?_; go_step; (repeat apply Exists.intro); refine ⟨?rel, ?eq⟩; (case eq => (try simp only [c29b0]); (try simp only [c44b0]); (try simp only [c44b0]); rfl)))
             case rel => exact ⟨_, ((t389 != t346)), (by first | rfl | (simp; done) | (simp [*]; done)), H', ⟨by have := HJ6.out; have := HJ39.out; first | omega | exact Nat.le_refl _⟩, ⟨by (with_reducible repeat (first | apply rA_ | apply rN_ | apply rD_)); exact Kd.R_mono HO_348001.out (fun _ hk => ⟨hk.1.1.1, ⟨hk.1.1.2.1, ⟨hk.1.1.2.2, ⟨hk.1.2, hk.2⟩⟩⟩⟩)⟩, ⟨by (with_reducible repeat (first | apply rA_ | apply rN_ | apply rD_)); exact Kd.R_mono HO_348002.out (fun _ hk => ⟨hk.1.1.1, ⟨hk.1.1.2.1, ⟨hk.1.1.2.2, ⟨hk.1.2, hk.2⟩⟩⟩⟩)⟩, ⟨by (with_reducible repeat (first | apply rA_ | apply rN_ | apply rD_)); exact HO_348003.out⟩, ⟨by (with_reducible repeat (first | apply rA_ | apply rN_ | apply rD_)); exact Kd.R_mono HO_363001.out (fun _ hk => ⟨hk.1.1.1, ⟨hk.1.1.2.1, ⟨hk.1.1.2.2, ⟨hk.1.2, hk.2⟩⟩⟩⟩)⟩, ⟨by (with_reducible repeat (first | apply rA_ | apply rN_ | apply rD_)); exact Kd.R_mono HO_363002.out (fun _ hk => ⟨hk.1.1.1, ⟨hk.1.1.2.1, ⟨hk.1.1.2.2, ⟨hk.1.2, hk.2⟩⟩⟩⟩)⟩, ⟨by (with_reducible repeat (first | apply rA_ | apply rN_ | apply rD_)); exact HO_363003.out⟩, ⟨by (with_reducible repeat (first | apply rA_ | apply rN_ | apply rD_)); exact Kd.R_mono HO382.out (fun _ hk => ⟨hk.1.1.1.2, ⟨hk.1.1.2, ⟨hk.1.2, ⟨hk.2, hk.1.1.1.1⟩⟩⟩⟩)⟩, ⟨by (with_reducible repeat (first | apply rA_ | apply rN_ | apply rD_)); exact Kd.R_mono HO385.out (fun _ hk => ⟨hk.1.1.1.2, ⟨hk.1.1.2, ⟨hk.1.2, ⟨hk.2, hk.1.1.1.1⟩⟩⟩⟩)⟩, ⟨by (with_reducible repeat (first | apply rA_ | apply rN_ | apply rD_)); exact Kd.R_mono HO388.out (fun _ hk => ⟨hk.1.2, hk.2⟩)⟩, ⟨by (with_reducible repeat (first | refine kN_ ?_ _ | refine kD_ ?_ | refine kA_ ?_ _)); exact BK347.out⟩, ⟨by (with_reducible repeat (first | refine kN_ ?_ _ | refine kD_ ?_ | refine kA_ ?_ _)); exact BK362.out⟩, ⟨by (with_reducible repeat (first | refine kN_ ?_ _ | refine kD_ ?_ | refine kA_ ?_ _)); exact BK390.out⟩, ⟨by repeat (first | (with_reducible first | exact HB.out | apply bA_ | apply bN_ | apply bD_ | refine bE_ ?_ GE347.out | refine bE_ ?_ GE362.out | refine bE_ ?_ GE390.out) | exact HB.out)⟩⟩
            ·replace c79 := Bool.eq_false_iff.mpr c79
             subst c79
             have H1 : (laws_FnExactGetNode.j2 kj39 t371 true t351 t372 t373 t374) = some r := by rw [if_neg (show ¬ (false = true) by decide)] at H; exact H
             clear H
             have H := H1
             clear H1
             have H' := aM_ H
             clear H
             have hnb86 := NB390_347.out
             have hnc86 := NB347_390.out
             have hnb87 := NB390_362.out
             have hnc87 := NB362_390.out
             have hcz88_0 : w71.cell? ⟨gb390, 0, none⟩ = some (.bool false) := (kC_ BK390.out 0).trans rfl
             have hcz88_1 : w71.cell? ⟨gb390, 1, none⟩ = some (.slice none 0 0) := (kC_ BK390.out 1).trans rfl
             have hcz88_2 : w71.cell? ⟨gb390, 2, none⟩ = some (.slice none 0 0) := (kC_ BK390.out 2).trans rfl
             have hcz88_3 : w71.cell? ⟨gb390, 3, none⟩ = some (.slice none 0 0) := (kC_ BK390.out 3).trans rfl
             have hfz88_0 := kF_ BK390.out 0
             have hfz88_1 := kF_ BK390.out 1
             have hfz88_2 := kF_ BK390.out 2
             have hfz88_3 := kF_ BK390.out 3
             have hnb89 := NB347_362.out
             have hnc89 := NB362_347.out
             have hcz90_0 : w71.cell? ⟨gb347, 0, none⟩ = some (.bool t336) := (kC_ BK347.out 0).trans rfl
             have hcz90_1 : w71.cell? ⟨gb347, 1, none⟩ = some (.slice Ao13 t337.length co13) := (kC_ BK347.out 1).trans rfl
             have hcz90_2 : w71.cell? ⟨gb347, 2, none⟩ = some (.slice Ao14 t340.length co14) := (kC_ BK347.out 2).trans rfl
             have hcz90_3 : w71.cell? ⟨gb347, 3, none⟩ = some (.slice Ao15 t343.length co15) := (kC_ BK347.out 3).trans rfl
             have hfz90_0 := kF_ BK347.out 0
             have hfz90_1 := kF_ BK347.out 1
             have hfz90_2 := kF_ BK347.out 2
             have hfz90_3 := kF_ BK347.out 3
             go_wp2_with (first | ((with_reducible refine gate_callee (f := 17) rfl ?_); refine goesL_ (some 78) rfl rfl Try.func17 (by kernel_rfl) rfl #[.agg #[.bool t379, .slice Ao75 t380.length co75, .slice Ao76 t383.length co76, .slice Ao77 t386.length co77], .agg #[.bool t336, .slice Ao13 t337.length co13, .slice Ao14 t340.length co14, .slice Ao15 t343.length co15]] rfl (by (try simp only [mA_, mC_, mN_]); first | done | rfl | (simp only [lD_, lT_]; rfl)) ?_; (with_reducible refine (laws_eqNode.calls kj39 t379 _ _ t380 _ _ t383 _ _ t386 t336 _ _ t337 _ _ t340 _ _ t343 false _ ?side1 ?side2 ?side3 ?side4 ?side5 ?side6 ?side7 ?side8 ?side9 ?side10 ?side11 ?side12 A78.out).mono ?_); (case side1 => refine (Kd.R_reads' (e := 9) (base := w.heap.size) (ok := fun k_ => ((((some k_ ≠ (.slice Ao76 t383.length co76 : Value).ownBlock ∧ some k_ ≠ (.slice Ao13 t337.length co13 : Value).ownBlock) ∧ some k_ ≠ (.slice Ao14 t340.length co14 : Value).ownBlock) ∧ some k_ ≠ (.slice Ao22 t352.length co22 : Value).ownBlock) ∧ some k_ ≠ (.slice Ao23 t355.length co23 : Value).ownBlock)) (n := t380.length) (c := co75) ?_).2.2; exact (by (with_reducible repeat (first | apply rA_ | apply rN_ | apply rD_)); exact (Kd.R_mono (Kd.R_far (p := ⟨gb390, 3, none⟩) (Kd.R_far (p := ⟨gb390, 2, none⟩) (Kd.R_far (p := ⟨gb390, 1, none⟩) (Kd.R_far (p := ⟨gb390, 0, none⟩) (Kd.R_types HO382.out BK390.out (by decide)) (fun _ hk => hk.2) (.bool t379)) (fun _ hk => hk.2) (.slice Ao75 t380.length co75)) (fun _ hk => hk.2) (.slice Ao76 t383.length co76)) (fun _ hk => hk.2) (.slice Ao77 t386.length co77)) (fun _ h_ => h_.1)))); (case side2 => exact (Kd.R_reads' HO382.out).2.1); (case side3 => refine (Kd.R_reads' (e := 9) (base := w.heap.size) (ok := fun k_ => ((((some k_ ≠ (.slice Ao75 t380.length co75 : Value).ownBlock ∧ some k_ ≠ (.slice Ao13 t337.length co13 : Value).ownBlock) ∧ some k_ ≠ (.slice Ao14 t340.length co14 : Value).ownBlock) ∧ some k_ ≠ (.slice Ao22 t352.length co22 : Value).ownBlock) ∧ some k_ ≠ (.slice Ao23 t355.length co23 : Value).ownBlock)) (n := t383.length) (c := co76) ?_).2.2; exact (by (with_reducible repeat (first | apply rA_ | apply rN_ | apply rD_)); exact (Kd.R_mono (Kd.R_far (p := ⟨gb390, 3, none⟩) (Kd.R_far (p := ⟨gb390, 2, none⟩) (Kd.R_far (p := ⟨gb390, 1, none⟩) (Kd.R_far (p := ⟨gb390, 0, none⟩) (Kd.R_types HO385.out BK390.out (by decide)) (fun _ hk => hk.2) (.bool t379)) (fun _ hk => hk.2) (.slice Ao75 t380.length co75)) (fun _ hk => hk.2) (.slice Ao76 t383.length co76)) (fun _ hk => hk.2) (.slice Ao77 t386.length co77)) (fun _ h_ => h_.1)))); (case side4 => exact (Kd.R_reads' HO385.out).2.1); (case side5 => refine (Kd.R_reads' (e := 3) (base := w.heap.size) (ok := fun k_ => ((True ∧ some k_ ≠ (.slice Ao15 t343.length co15 : Value).ownBlock) ∧ some k_ ≠ (.slice Ao24 t358.length co24 : Value).ownBlock)) (n := t386.length) (c := co77) ?_).2.2; exact (by (with_reducible repeat (first | apply rA_ | apply rN_ | apply rD_)); exact (Kd.R_mono (Kd.R_far (p := ⟨gb390, 3, none⟩) (Kd.R_far (p := ⟨gb390, 2, none⟩) (Kd.R_far (p := ⟨gb390, 1, none⟩) (Kd.R_far (p := ⟨gb390, 0, none⟩) (Kd.R_types HO388.out BK390.out (by decide)) (fun _ hk => hk.2) (.bool t379)) (fun _ hk => hk.2) (.slice Ao75 t380.length co75)) (fun _ hk => hk.2) (.slice Ao76 t383.length co76)) (fun _ hk => hk.2) (.slice Ao77 t386.length co77)) (fun _ h_ => h_.1)))); (case side6 => exact (Kd.R_reads' HO388.out).2.1); (case side7 => refine (Kd.R_reads' (e := 9) (base := w.heap.size) (ok := fun k_ => (((some k_ ≠ (.slice Ao14 t340.length co14 : Value).ownBlock ∧ (some k_ ≠ (.slice Ao22 t352.length co22 : Value).ownBlock ∧ some k_ ≠ (.slice Ao23 t355.length co23 : Value).ownBlock)) ∧ some k_ ≠ (.slice Ao75 t380.length co75 : Value).ownBlock) ∧ some k_ ≠ (.slice Ao76 t383.length co76 : Value).ownBlock)) (n := t337.length) (c := co13) ?_).2.2; exact (by (with_reducible repeat (first | apply rA_ | apply rN_ | apply rD_)); exact (Kd.R_mono (Kd.R_far (p := ⟨gb390, 3, none⟩) (Kd.R_far (p := ⟨gb390, 2, none⟩) (Kd.R_far (p := ⟨gb390, 1, none⟩) (Kd.R_far (p := ⟨gb390, 0, none⟩) (Kd.R_types HO_348001.out BK390.out (by decide)) (fun _ hk => hk.2) (.bool t379)) (fun _ hk => hk.2) (.slice Ao75 t380.length co75)) (fun _ hk => hk.2) (.slice Ao76 t383.length co76)) (fun _ hk => hk.2) (.slice Ao77 t386.length co77)) (fun _ h_ => h_.1)))); (case side8 => exact (Kd.R_reads' HO_348001.out).2.1); (case side9 => refine (Kd.R_reads' (e := 9) (base := w.heap.size) (ok := fun k_ => (((some k_ ≠ (.slice Ao13 t337.length co13 : Value).ownBlock ∧ (some k_ ≠ (.slice Ao22 t352.length co22 : Value).ownBlock ∧ some k_ ≠ (.slice Ao23 t355.length co23 : Value).ownBlock)) ∧ some k_ ≠ (.slice Ao75 t380.length co75 : Value).ownBlock) ∧ some k_ ≠ (.slice Ao76 t383.length co76 : Value).ownBlock)) (n := t340.length) (c := co14) ?_).2.2; exact (by (with_reducible repeat (first | apply rA_ | apply rN_ | apply rD_)); exact (Kd.R_mono (Kd.R_far (p := ⟨gb390, 3, none⟩) (Kd.R_far (p := ⟨gb390, 2, none⟩) (Kd.R_far (p := ⟨gb390, 1, none⟩) (Kd.R_far (p := ⟨gb390, 0, none⟩) (Kd.R_types HO_348002.out BK390.out (by decide)) (fun _ hk => hk.2) (.bool t379)) (fun _ hk => hk.2) (.slice Ao75 t380.length co75)) (fun _ hk => hk.2) (.slice Ao76 t383.length co76)) (fun _ hk => hk.2) (.slice Ao77 t386.length co77)) (fun _ h_ => h_.1)))); (case side10 => exact (Kd.R_reads' HO_348002.out).2.1); (case side11 => refine (Kd.R_reads' (e := 3) (base := w.heap.size) (ok := fun k_ => (some k_ ≠ (.slice Ao24 t358.length co24 : Value).ownBlock ∧ some k_ ≠ (.slice Ao77 t386.length co77 : Value).ownBlock)) (n := t343.length) (c := co15) ?_).2.2; exact (by (with_reducible repeat (first | apply rA_ | apply rN_ | apply rD_)); exact (Kd.R_mono (Kd.R_far (p := ⟨gb390, 3, none⟩) (Kd.R_far (p := ⟨gb390, 2, none⟩) (Kd.R_far (p := ⟨gb390, 1, none⟩) (Kd.R_far (p := ⟨gb390, 0, none⟩) (Kd.R_types HO_348003.out BK390.out (by decide)) (fun _ hk => hk.2) (.bool t379)) (fun _ hk => hk.2) (.slice Ao75 t380.length co75)) (fun _ hk => hk.2) (.slice Ao76 t383.length co76)) (fun _ hk => hk.2) (.slice Ao77 t386.length co77)) (fun _ h_ => h_.1)))); (case side12 => exact (Kd.R_reads' HO_348003.out).2.1); rintro e w91 ⟨rfl, hb⟩; refine ⟨_, rfl, ?_⟩; have n0_ := aM_ (Kd.R_below (by (with_reducible repeat (first | apply rA_ | apply rN_ | apply rD_)); exact (Kd.R_mono (Kd.R_far (p := ⟨gb390, 3, none⟩) (Kd.R_far (p := ⟨gb390, 2, none⟩) (Kd.R_far (p := ⟨gb390, 1, none⟩) (Kd.R_far (p := ⟨gb390, 0, none⟩) (Kd.R_types HO_348001.out BK390.out (by decide)) (fun _ hk => hk.2) (.bool t379)) (fun _ hk => hk.2) (.slice Ao75 t380.length co75)) (fun _ hk => hk.2) (.slice Ao76 t383.length co76)) (fun _ hk => hk.2) (.slice Ao77 t386.length co77)) (fun _ h_ => h_.1))) hb); have n1_ := aM_ (Kd.R_below (by (with_reducible repeat (first | apply rA_ | apply rN_ | apply rD_)); exact (Kd.R_mono (Kd.R_far (p := ⟨gb390, 3, none⟩) (Kd.R_far (p := ⟨gb390, 2, none⟩) (Kd.R_far (p := ⟨gb390, 1, none⟩) (Kd.R_far (p := ⟨gb390, 0, none⟩) (Kd.R_types HO_348002.out BK390.out (by decide)) (fun _ hk => hk.2) (.bool t379)) (fun _ hk => hk.2) (.slice Ao75 t380.length co75)) (fun _ hk => hk.2) (.slice Ao76 t383.length co76)) (fun _ hk => hk.2) (.slice Ao77 t386.length co77)) (fun _ h_ => h_.1))) hb); have n2_ := aM_ (Kd.R_below (by (with_reducible repeat (first | apply rA_ | apply rN_ | apply rD_)); exact (Kd.R_mono (Kd.R_far (p := ⟨gb390, 3, none⟩) (Kd.R_far (p := ⟨gb390, 2, none⟩) (Kd.R_far (p := ⟨gb390, 1, none⟩) (Kd.R_far (p := ⟨gb390, 0, none⟩) (Kd.R_types HO_348003.out BK390.out (by decide)) (fun _ hk => hk.2) (.bool t379)) (fun _ hk => hk.2) (.slice Ao75 t380.length co75)) (fun _ hk => hk.2) (.slice Ao76 t383.length co76)) (fun _ hk => hk.2) (.slice Ao77 t386.length co77)) (fun _ h_ => h_.1))) hb); have n3_ := aM_ (Kd.R_below (by (with_reducible repeat (first | apply rA_ | apply rN_ | apply rD_)); exact (Kd.R_mono (Kd.R_far (p := ⟨gb390, 3, none⟩) (Kd.R_far (p := ⟨gb390, 2, none⟩) (Kd.R_far (p := ⟨gb390, 1, none⟩) (Kd.R_far (p := ⟨gb390, 0, none⟩) (Kd.R_types HO_363001.out BK390.out (by decide)) (fun _ hk => hk.2) (.bool t379)) (fun _ hk => hk.2) (.slice Ao75 t380.length co75)) (fun _ hk => hk.2) (.slice Ao76 t383.length co76)) (fun _ hk => hk.2) (.slice Ao77 t386.length co77)) (fun _ h_ => h_.1))) hb); have n4_ := aM_ (Kd.R_below (by (with_reducible repeat (first | apply rA_ | apply rN_ | apply rD_)); exact (Kd.R_mono (Kd.R_far (p := ⟨gb390, 3, none⟩) (Kd.R_far (p := ⟨gb390, 2, none⟩) (Kd.R_far (p := ⟨gb390, 1, none⟩) (Kd.R_far (p := ⟨gb390, 0, none⟩) (Kd.R_types HO_363002.out BK390.out (by decide)) (fun _ hk => hk.2) (.bool t379)) (fun _ hk => hk.2) (.slice Ao75 t380.length co75)) (fun _ hk => hk.2) (.slice Ao76 t383.length co76)) (fun _ hk => hk.2) (.slice Ao77 t386.length co77)) (fun _ h_ => h_.1))) hb); have n5_ := aM_ (Kd.R_below (by (with_reducible repeat (first | apply rA_ | apply rN_ | apply rD_)); exact (Kd.R_mono (Kd.R_far (p := ⟨gb390, 3, none⟩) (Kd.R_far (p := ⟨gb390, 2, none⟩) (Kd.R_far (p := ⟨gb390, 1, none⟩) (Kd.R_far (p := ⟨gb390, 0, none⟩) (Kd.R_types HO_363003.out BK390.out (by decide)) (fun _ hk => hk.2) (.bool t379)) (fun _ hk => hk.2) (.slice Ao75 t380.length co75)) (fun _ hk => hk.2) (.slice Ao76 t383.length co76)) (fun _ hk => hk.2) (.slice Ao77 t386.length co77)) (fun _ h_ => h_.1))) hb); have n6_ := aM_ (Kd.R_below (by (with_reducible repeat (first | apply rA_ | apply rN_ | apply rD_)); exact (Kd.R_mono (Kd.R_far (p := ⟨gb390, 3, none⟩) (Kd.R_far (p := ⟨gb390, 2, none⟩) (Kd.R_far (p := ⟨gb390, 1, none⟩) (Kd.R_far (p := ⟨gb390, 0, none⟩) (Kd.R_types HO378.out BK390.out (by decide)) (fun _ hk => hk.2) (.bool t379)) (fun _ hk => hk.2) (.slice Ao75 t380.length co75)) (fun _ hk => hk.2) (.slice Ao76 t383.length co76)) (fun _ hk => hk.2) (.slice Ao77 t386.length co77)) (fun _ h_ => h_.1))) hb); have n7_ := aM_ (Kd.R_below (by (with_reducible repeat (first | apply rA_ | apply rN_ | apply rD_)); exact (Kd.R_mono (Kd.R_far (p := ⟨gb390, 3, none⟩) (Kd.R_far (p := ⟨gb390, 2, none⟩) (Kd.R_far (p := ⟨gb390, 1, none⟩) (Kd.R_far (p := ⟨gb390, 0, none⟩) (Kd.R_types HO382.out BK390.out (by decide)) (fun _ hk => hk.2) (.bool t379)) (fun _ hk => hk.2) (.slice Ao75 t380.length co75)) (fun _ hk => hk.2) (.slice Ao76 t383.length co76)) (fun _ hk => hk.2) (.slice Ao77 t386.length co77)) (fun _ h_ => h_.1))) hb); have n8_ := aM_ (Kd.R_below (by (with_reducible repeat (first | apply rA_ | apply rN_ | apply rD_)); exact (Kd.R_mono (Kd.R_far (p := ⟨gb390, 3, none⟩) (Kd.R_far (p := ⟨gb390, 2, none⟩) (Kd.R_far (p := ⟨gb390, 1, none⟩) (Kd.R_far (p := ⟨gb390, 0, none⟩) (Kd.R_types HO385.out BK390.out (by decide)) (fun _ hk => hk.2) (.bool t379)) (fun _ hk => hk.2) (.slice Ao75 t380.length co75)) (fun _ hk => hk.2) (.slice Ao76 t383.length co76)) (fun _ hk => hk.2) (.slice Ao77 t386.length co77)) (fun _ h_ => h_.1))) hb); have n9_ := aM_ (Kd.R_below (by (with_reducible repeat (first | apply rA_ | apply rN_ | apply rD_)); exact (Kd.R_mono (Kd.R_far (p := ⟨gb390, 3, none⟩) (Kd.R_far (p := ⟨gb390, 2, none⟩) (Kd.R_far (p := ⟨gb390, 1, none⟩) (Kd.R_far (p := ⟨gb390, 0, none⟩) (Kd.R_types HO388.out BK390.out (by decide)) (fun _ hk => hk.2) (.bool t379)) (fun _ hk => hk.2) (.slice Ao75 t380.length co75)) (fun _ hk => hk.2) (.slice Ao76 t383.length co76)) (fun _ hk => hk.2) (.slice Ao77 t386.length co77)) (fun _ h_ => h_.1))) hb); have n10_ := aM_ (blk_below (g := gb347) (o := .cells #[.bool t336, .slice Ao13 t337.length co13, .slice Ao14 t340.length co14, .slice Ao15 t343.length co15] 29 (0, 0)) (by (with_reducible repeat (first | refine kN_ ?_ _ | refine kD_ ?_ | refine kA_ ?_ _)); refine blk_far ?_ NB347_390.out _; (with_reducible repeat (first | refine kN_ ?_ _ | refine kD_ ?_ | refine kA_ ?_ _)); refine blk_far ?_ NB347_390.out _; (with_reducible repeat (first | refine kN_ ?_ _ | refine kD_ ?_ | refine kA_ ?_ _)); refine blk_far ?_ NB347_390.out _; (with_reducible repeat (first | refine kN_ ?_ _ | refine kD_ ?_ | refine kA_ ?_ _)); refine blk_far ?_ NB347_390.out _; (with_reducible repeat (first | refine kN_ ?_ _ | refine kD_ ?_ | refine kA_ ?_ _)); exact BK347.out) hb); have n11_ := aM_ (blk_below (g := gb362) (o := .cells #[.bool t351, .slice Ao22 t352.length co22, .slice Ao23 t355.length co23, .slice Ao24 t358.length co24] 29 (0, 0)) (by (with_reducible repeat (first | refine kN_ ?_ _ | refine kD_ ?_ | refine kA_ ?_ _)); refine blk_far ?_ NB362_390.out _; (with_reducible repeat (first | refine kN_ ?_ _ | refine kD_ ?_ | refine kA_ ?_ _)); refine blk_far ?_ NB362_390.out _; (with_reducible repeat (first | refine kN_ ?_ _ | refine kD_ ?_ | refine kA_ ?_ _)); refine blk_far ?_ NB362_390.out _; (with_reducible repeat (first | refine kN_ ?_ _ | refine kD_ ?_ | refine kA_ ?_ _)); refine blk_far ?_ NB362_390.out _; (with_reducible repeat (first | refine kN_ ?_ _ | refine kD_ ?_ | refine kA_ ?_ _)); exact BK362.out) hb); have n12_ := aM_ (blk_below (g := gb390) (o := .cells #[.bool t379, .slice Ao75 t380.length co75, .slice Ao76 t383.length co76, .slice Ao77 t386.length co77] 29 (0, 0)) (by (with_reducible repeat (first | refine kN_ ?_ _ | refine kD_ ?_ | refine kA_ ?_ _)); refine kP_ (cs := #[.bool t379, .slice Ao75 t380.length co75, .slice Ao76 t383.length co76, .slice none 0 0]) ?_ 3 _ rfl; (with_reducible repeat (first | refine kN_ ?_ _ | refine kD_ ?_ | refine kA_ ?_ _)); refine kP_ (cs := #[.bool t379, .slice Ao75 t380.length co75, .slice none 0 0, .slice none 0 0]) ?_ 2 _ rfl; (with_reducible repeat (first | refine kN_ ?_ _ | refine kD_ ?_ | refine kA_ ?_ _)); refine kP_ (cs := #[.bool t379, .slice none 0 0, .slice none 0 0, .slice none 0 0]) ?_ 1 _ rfl; (with_reducible repeat (first | refine kN_ ?_ _ | refine kD_ ?_ | refine kA_ ?_ _)); refine kP_ (cs := #[.bool false, .slice none 0 0, .slice none 0 0, .slice none 0 0]) ?_ 0 _ rfl; (with_reducible repeat (first | refine kN_ ?_ _ | refine kD_ ?_ | refine kA_ ?_ _)); exact BK390.out) hb); have n13_ := aM_ (bT_ (by repeat (first | (with_reducible first | exact HB.out | apply bA_ | apply bN_ | apply bD_ | refine bE_ ?_ GE347.out | refine bE_ ?_ GE362.out | refine bE_ ?_ GE390.out) | exact HB.out)) hb); clear HO_348001; clear HO_348002; clear HO_348003; clear HO_363001; clear HO_363002; clear HO_363003; clear HO378; clear HO382; clear HO385; clear HO388; clear BK347; clear BK362; clear BK390; clear HB; have HO_348001 := n0_; have HO_348002 := n1_; have HO_348003 := n2_; have HO_363001 := n3_; have HO_363002 := n4_; have HO_363003 := n5_; have HO378 := n6_; have HO382 := n7_; have HO385 := n8_; have HO388 := n9_; have BK347 := n10_; have BK362 := n11_; have BK390 := n12_; have HB := n13_; clear n0_ n1_ n2_ n3_ n4_ n5_ n6_ n7_ n8_ n9_ n10_ n11_ n12_ n13_; (try clear hb); (try clear hb2); (try clear hk); (try clear hi)))
             (first | go_meet | (refine Met.intro ?_; go_step; (repeat apply Exists.intro); refine ⟨?rel, ?eq⟩; (case eq => (try simp only [c29b0]); (try simp only [c44b0]); (try simp only [c44b0]); rfl)))
             case rel => exact ⟨_, (true), (by first | rfl | (simp; done) | (simp [*]; done)), H', ⟨by have := HJ6.out; have := HJ39.out; first | omega | exact Nat.le_refl _⟩, ⟨by (with_reducible repeat (first | apply rA_ | apply rN_ | apply rD_)); exact Kd.R_mono HO_348001.out (fun _ hk => ⟨hk.1.1.1, ⟨hk.1.1.2.1, ⟨hk.1.1.2.2, ⟨hk.1.2, hk.2⟩⟩⟩⟩)⟩, ⟨by (with_reducible repeat (first | apply rA_ | apply rN_ | apply rD_)); exact Kd.R_mono HO_348002.out (fun _ hk => ⟨hk.1.1.1, ⟨hk.1.1.2.1, ⟨hk.1.1.2.2, ⟨hk.1.2, hk.2⟩⟩⟩⟩)⟩, ⟨by (with_reducible repeat (first | apply rA_ | apply rN_ | apply rD_)); exact HO_348003.out⟩, ⟨by (with_reducible repeat (first | apply rA_ | apply rN_ | apply rD_)); exact Kd.R_mono HO_363001.out (fun _ hk => ⟨hk.1.1.1, ⟨hk.1.1.2.1, ⟨hk.1.1.2.2, ⟨hk.1.2, hk.2⟩⟩⟩⟩)⟩, ⟨by (with_reducible repeat (first | apply rA_ | apply rN_ | apply rD_)); exact Kd.R_mono HO_363002.out (fun _ hk => ⟨hk.1.1.1, ⟨hk.1.1.2.1, ⟨hk.1.1.2.2, ⟨hk.1.2, hk.2⟩⟩⟩⟩)⟩, ⟨by (with_reducible repeat (first | apply rA_ | apply rN_ | apply rD_)); exact HO_363003.out⟩, ⟨by (with_reducible repeat (first | apply rA_ | apply rN_ | apply rD_)); exact Kd.R_mono HO382.out (fun _ hk => ⟨hk.1.1.1.2, ⟨hk.1.1.2, ⟨hk.1.2, ⟨hk.2, hk.1.1.1.1⟩⟩⟩⟩)⟩, ⟨by (with_reducible repeat (first | apply rA_ | apply rN_ | apply rD_)); exact Kd.R_mono HO385.out (fun _ hk => ⟨hk.1.1.1.2, ⟨hk.1.1.2, ⟨hk.1.2, ⟨hk.2, hk.1.1.1.1⟩⟩⟩⟩)⟩, ⟨by (with_reducible repeat (first | apply rA_ | apply rN_ | apply rD_)); exact Kd.R_mono HO388.out (fun _ hk => ⟨hk.1.2, hk.2⟩)⟩, ⟨by (with_reducible repeat (first | refine kN_ ?_ _ | refine kD_ ?_ | refine kA_ ?_ _)); exact BK347.out⟩, ⟨by (with_reducible repeat (first | refine kN_ ?_ _ | refine kD_ ?_ | refine kA_ ?_ _)); exact BK362.out⟩, ⟨by (with_reducible repeat (first | refine kN_ ?_ _ | refine kD_ ?_ | refine kA_ ?_ _)); exact BK390.out⟩, ⟨by repeat (first | (with_reducible first | exact HB.out | apply bA_ | apply bN_ | apply bD_ | refine bE_ ?_ GE347.out | refine bE_ ?_ GE362.out | refine bE_ ?_ GE390.out) | exact HB.out)⟩⟩
           case rest =>
            clear HC62
            try clear c1
            try clear c2
            try clear c2b0
            try clear c2b1
            try clear p2
            try clear c3
            try clear c4
            try clear c5
            try clear c6
            try clear c7
            try clear c8
            try clear c16
            try clear c17
            try clear c18
            try clear c18b0
            try clear c19
            try clear c20
            try clear c21
            try clear c22
            try clear c23
            try clear c24
            try clear c26
            try clear c27
            try clear c29
            try clear c29b0
            try clear c31
            try clear c35
            try clear c38
            try clear c44
            try clear c44b0
            try clear c46
            try clear c47
            try clear c51
            try clear c55
            try clear c58
            try clear c58b0
            try clear c59
            try clear c59b0
            try clear c59b1
            try clear c63
            try clear c72
            try clear c73
            try clear c79
            try clear c80
            try clear c81
            try clear c83
            try clear c86
            try clear c87
            try clear c89
            try clear hcz12_0
            try clear hcz12_1
            try clear hcz12_2
            try clear hcz12_3
            try clear hcz21_0
            try clear hcz21_1
            try clear hcz21_2
            try clear hcz21_3
            try clear hcz28_0
            try clear hcz28_1
            try clear hcz28_2
            try clear hcz28_3
            try clear hcz29_0
            try clear hcz29_1
            try clear hcz29_2
            try clear hcz29_3
            try clear hcz32_0
            try clear hcz32_1
            try clear hcz32_2
            try clear hcz32_3
            try clear hcz33_0
            try clear hcz33_1
            try clear hcz33_2
            try clear hcz33_3
            try clear hcz48_0
            try clear hcz48_1
            try clear hcz48_2
            try clear hcz48_3
            try clear hcz49_0
            try clear hcz49_1
            try clear hcz49_2
            try clear hcz49_3
            try clear hcz52_0
            try clear hcz52_1
            try clear hcz52_2
            try clear hcz52_3
            try clear hcz53_0
            try clear hcz53_1
            try clear hcz53_2
            try clear hcz53_3
            try clear hcz64_0
            try clear hcz64_1
            try clear hcz64_2
            try clear hcz64_3
            try clear hcz66_0
            try clear hcz66_1
            try clear hcz66_2
            try clear hcz66_3
            try clear hcz74_0
            try clear hcz74_1
            try clear hcz74_2
            try clear hcz74_3
            try clear hcz82_0
            try clear hcz82_1
            try clear hcz82_2
            try clear hcz82_3
            try clear hcz84_0
            try clear hcz84_1
            try clear hcz84_2
            try clear hcz84_3
            try clear hcz88_0
            try clear hcz88_1
            try clear hcz88_2
            try clear hcz88_3
            try clear hcz90_0
            try clear hcz90_1
            try clear hcz90_2
            try clear hcz90_3
            try clear hfz12_0
            try clear hfz12_1
            try clear hfz12_2
            try clear hfz12_3
            try clear hfz21_0
            try clear hfz21_1
            try clear hfz21_2
            try clear hfz21_3
            try clear hfz28_0
            try clear hfz28_1
            try clear hfz28_2
            try clear hfz28_3
            try clear hfz29_0
            try clear hfz29_1
            try clear hfz29_2
            try clear hfz29_3
            try clear hfz32_0
            try clear hfz32_1
            try clear hfz32_2
            try clear hfz32_3
            try clear hfz33_0
            try clear hfz33_1
            try clear hfz33_2
            try clear hfz33_3
            try clear hfz48_0
            try clear hfz48_1
            try clear hfz48_2
            try clear hfz48_3
            try clear hfz49_0
            try clear hfz49_1
            try clear hfz49_2
            try clear hfz49_3
            try clear hfz52_0
            try clear hfz52_1
            try clear hfz52_2
            try clear hfz52_3
            try clear hfz53_0
            try clear hfz53_1
            try clear hfz53_2
            try clear hfz53_3
            try clear hfz64_0
            try clear hfz64_1
            try clear hfz64_2
            try clear hfz64_3
            try clear hfz66_0
            try clear hfz66_1
            try clear hfz66_2
            try clear hfz66_3
            try clear hfz74_0
            try clear hfz74_1
            try clear hfz74_2
            try clear hfz74_3
            try clear hfz82_0
            try clear hfz82_1
            try clear hfz82_2
            try clear hfz82_3
            try clear hfz84_0
            try clear hfz84_1
            try clear hfz84_2
            try clear hfz84_3
            try clear hfz88_0
            try clear hfz88_1
            try clear hfz88_2
            try clear hfz88_3
            try clear hfz90_0
            try clear hfz90_1
            try clear hfz90_2
            try clear hfz90_3
            try clear p2
            obtain ⟨kq, x84_61, rfl, HA, HJ61, HO_348001, HO_348002, HO_348003, HO_363001, HO_363002, HO_363003, HO_391001, HO_391002, HO_391003, BK347, BK362, BK390, HB⟩ := hcut
            have hl363001_61 := (Kd.R_reads' HO_363001.out).1
            rw [hl363001_61] at HO_363001
            (try simp only [hl363001_61])
            (try simp only [hl363001_61] at BK347)
            (try simp only [hl363001_61] at BK362)
            (try simp only [hl363001_61] at BK390)
            (try simp only [hl363001_61] at HO_348001)
            (try simp only [hl363001_61] at HO_348002)
            (try simp only [hl363001_61] at HO_348003)
            (try simp only [hl363001_61] at HO_363002)
            (try simp only [hl363001_61] at HO_363003)
            (try simp only [hl363001_61] at HO_391001)
            (try simp only [hl363001_61] at HO_391002)
            (try simp only [hl363001_61] at HO_391003)
            have hl363002_61 := (Kd.R_reads' HO_363002.out).1
            rw [hl363002_61] at HO_363002
            (try simp only [hl363002_61])
            (try simp only [hl363002_61] at BK347)
            (try simp only [hl363002_61] at BK362)
            (try simp only [hl363002_61] at BK390)
            (try simp only [hl363002_61] at HO_348001)
            (try simp only [hl363002_61] at HO_348002)
            (try simp only [hl363002_61] at HO_348003)
            (try simp only [hl363002_61] at HO_363001)
            (try simp only [hl363002_61] at HO_363003)
            (try simp only [hl363002_61] at HO_391001)
            (try simp only [hl363002_61] at HO_391002)
            (try simp only [hl363002_61] at HO_391003)
            have hl363003_61 := (Kd.R_reads' HO_363003.out).1
            rw [hl363003_61] at HO_363003
            (try simp only [hl363003_61])
            (try simp only [hl363003_61] at BK347)
            (try simp only [hl363003_61] at BK362)
            (try simp only [hl363003_61] at BK390)
            (try simp only [hl363003_61] at HO_348001)
            (try simp only [hl363003_61] at HO_348002)
            (try simp only [hl363003_61] at HO_348003)
            (try simp only [hl363003_61] at HO_363001)
            (try simp only [hl363003_61] at HO_363002)
            (try simp only [hl363003_61] at HO_391001)
            (try simp only [hl363003_61] at HO_391002)
            (try simp only [hl363003_61] at HO_391003)
            cases kq with
            | zero => exact absurd HA.out (by simp [laws_FnExactGetNode.j2])
            | succ kj61 =>
             have H := HA.out
             clear HA
             simp only [laws_FnExactGetNode.j2] at H
             by_cases c92 : x84_61 = true
             ·subst c92
              have H1 : (some false) = some r := by rw [if_pos rfl] at H; exact H
              clear H
              have H := H1
              clear H1
              exact absurd (H.trans (congrArg some hr_.out)) (by simp)
             ·replace c92 := Bool.eq_false_iff.mpr c92
              subst c92
              have H1 : ((laws_heldNode.f kj61 t351 t372 t373 t374 1).bind fun t392 => (if t392 < 0 then (some false) else (if t392 = t371 then (some true) else (some false)))) = some r := by rw [if_neg (show ¬ (false = true) by decide)] at H; exact H
              clear H
              have H := H1
              clear H1
              replace H := oB_ H
              obtain ⟨t392, A930, H⟩ := H
              replace H : (if t392 < 0 then (some false) else (if t392 = t371 then (some true) else (some false))) = some r := H
              have A93 := aM_ A930
              clear A930
              by_cases c94 : t392 < 0
              ·rw [if_pos c94] at H
               have c94b0 : decide (t392 < 0) = true := decide_eq_true c94
               clear c94
               exact absurd (H.trans (congrArg some hr_.out)) (by simp)
              ·rw [if_neg c94] at H
               have c94b0 : decide (t392 < 0) = false := decide_eq_false c94
               clear c94
               by_cases c95 : t392 = t371
               ·rw [if_pos c95] at H
                have c95b0 : (t392 == t371) = true := beq_iff_eq.mpr c95
                have c95b1 : (t392 != t371) = false := bne_eq_false_iff_eq.mpr c95
                clear c95
                obtain rfl := Option.some.inj H
                have hnb96 := NB362_347.out
                have hnc96 := NB347_362.out
                have hnb97 := NB362_390.out
                have hnc97 := NB390_362.out
                have hcz98_0 : wc.cell? ⟨gb362, 0, none⟩ = some (.bool t351) := (kC_ BK362.out 0).trans rfl
                have hcz98_1 : wc.cell? ⟨gb362, 1, none⟩ = some (.slice Ao22 t372.length co22) := (kC_ BK362.out 1).trans rfl
                have hcz98_2 : wc.cell? ⟨gb362, 2, none⟩ = some (.slice Ao23 t373.length co23) := (kC_ BK362.out 2).trans rfl
                have hcz98_3 : wc.cell? ⟨gb362, 3, none⟩ = some (.slice Ao24 t374.length co24) := (kC_ BK362.out 3).trans rfl
                have hfz98_0 := kF_ BK362.out 0
                have hfz98_1 := kF_ BK362.out 1
                have hfz98_2 := kF_ BK362.out 2
                have hfz98_3 := kF_ BK362.out 3
                go_wp2_with (first | ((with_reducible refine gate_callee (f := 24) rfl ?_); refine goesL_ (some 87) rfl rfl Try.func24 (by kernel_rfl) rfl #[.agg #[.bool t351, .slice Ao22 t372.length co22, .slice Ao23 t373.length co23, .slice Ao24 t374.length co24], .int .i64 1] rfl (by (try simp only [mA_, mC_, mN_]); first | done | rfl | (simp only [lD_, lT_]; rfl)) ?_; (with_reducible refine (laws_heldNode.calls kj61 t351 _ _ t372 _ _ t373 _ _ t374 1 t392 _ ?side1 ?side2 ?side3 ?side4 ?side5 ?side6 A93.out).mono ?_); (case side1 => repeat (first | exact (Kd.R_reads' HO_363001.out).2.2 | (with_reducible refine cA_ ?_ _) | (with_reducible refine cN_ ?_ _) | (with_reducible refine cD_ ?_))); (case side2 => exact (Kd.R_reads' HO_363001.out).2.1); (case side3 => repeat (first | exact (Kd.R_reads' HO_363002.out).2.2 | (with_reducible refine cA_ ?_ _) | (with_reducible refine cN_ ?_ _) | (with_reducible refine cD_ ?_))); (case side4 => exact (Kd.R_reads' HO_363002.out).2.1); (case side5 => repeat (first | exact (Kd.R_reads' HO_363003.out).2.2 | (with_reducible refine cA_ ?_ _) | (with_reducible refine cN_ ?_ _) | (with_reducible refine cD_ ?_))); (case side6 => exact (Kd.R_reads' HO_363003.out).2.1); rintro e w99 ⟨rfl, hb⟩; refine ⟨_, rfl, ?_⟩; have n0_ := aM_ (Kd.R_below (by (with_reducible repeat (first | apply rA_ | apply rN_ | apply rD_)); exact HO_348001.out) hb); have n1_ := aM_ (Kd.R_below (by (with_reducible repeat (first | apply rA_ | apply rN_ | apply rD_)); exact HO_348002.out) hb); have n2_ := aM_ (Kd.R_below (by (with_reducible repeat (first | apply rA_ | apply rN_ | apply rD_)); exact HO_348003.out) hb); have n3_ := aM_ (Kd.R_below (by (with_reducible repeat (first | apply rA_ | apply rN_ | apply rD_)); exact HO_363001.out) hb); have n4_ := aM_ (Kd.R_below (by (with_reducible repeat (first | apply rA_ | apply rN_ | apply rD_)); exact HO_363002.out) hb); have n5_ := aM_ (Kd.R_below (by (with_reducible repeat (first | apply rA_ | apply rN_ | apply rD_)); exact HO_363003.out) hb); have n6_ := aM_ (Kd.R_below (by (with_reducible repeat (first | apply rA_ | apply rN_ | apply rD_)); exact HO_391001.out) hb); have n7_ := aM_ (Kd.R_below (by (with_reducible repeat (first | apply rA_ | apply rN_ | apply rD_)); exact HO_391002.out) hb); have n8_ := aM_ (Kd.R_below (by (with_reducible repeat (first | apply rA_ | apply rN_ | apply rD_)); exact HO_391003.out) hb); have n9_ := aM_ (blk_below (g := gb347) (o := .cells #[.bool t336, .slice Ao13 t337.length co13, .slice Ao14 t340.length co14, .slice Ao15 t343.length co15] 29 (0, 0)) (by (with_reducible repeat (first | refine kN_ ?_ _ | refine kD_ ?_ | refine kA_ ?_ _)); exact BK347.out) hb); have n10_ := aM_ (blk_below (g := gb362) (o := .cells #[.bool t351, .slice Ao22 t372.length co22, .slice Ao23 t373.length co23, .slice Ao24 t374.length co24] 29 (0, 0)) (by (with_reducible repeat (first | refine kN_ ?_ _ | refine kD_ ?_ | refine kA_ ?_ _)); exact BK362.out) hb); have n11_ := aM_ (blk_below (g := gb390) (o := .cells #[.bool t379, .slice Ao75 t380.length co75, .slice Ao76 t383.length co76, .slice Ao77 t386.length co77] 29 (0, 0)) (by (with_reducible repeat (first | refine kN_ ?_ _ | refine kD_ ?_ | refine kA_ ?_ _)); exact BK390.out) hb); have n12_ := aM_ (bT_ (by repeat (first | (with_reducible first | exact HB.out | apply bA_ | apply bN_ | apply bD_ | refine bE_ ?_ GE347.out | refine bE_ ?_ GE362.out | refine bE_ ?_ GE390.out) | exact HB.out)) hb); clear HO_348001; clear HO_348002; clear HO_348003; clear HO_363001; clear HO_363002; clear HO_363003; clear HO_391001; clear HO_391002; clear HO_391003; clear BK347; clear BK362; clear BK390; clear HB; have HO_348001 := n0_; have HO_348002 := n1_; have HO_348003 := n2_; have HO_363001 := n3_; have HO_363002 := n4_; have HO_363003 := n5_; have HO_391001 := n6_; have HO_391002 := n7_; have HO_391003 := n8_; have BK347 := n9_; have BK362 := n10_; have BK390 := n11_; have HB := n12_; clear n0_ n1_ n2_ n3_ n4_ n5_ n6_ n7_ n8_ n9_ n10_ n11_ n12_; (try clear hb); (try clear hb2); (try clear hk); (try clear hi)))
                go_ret
                exact ⟨by first | rfl | (simp [errW_none, errW_some] <;> rfl) | (simp [*, errW_none, errW_some] <;> rfl), by repeat (first | (with_reducible first | exact HB.out | apply bA_ | apply bN_ | apply bD_ | refine bE_ ?_ GE347.out | refine bE_ ?_ GE362.out | refine bE_ ?_ GE390.out) | exact HB.out)⟩
               ·rw [if_neg c95] at H
                have c95b0 : (t392 == t371) = false := beq_eq_false_iff_ne.mpr c95
                have c95b1 : (t392 != t371) = true := bne_iff_ne.mpr c95
                exact absurd (H.trans (congrArg some hr_.out)) (by simp)
          ·rw [if_neg c59] at H
           have c59b0 : (t375 == t371) = false := beq_eq_false_iff_ne.mpr c59
           have c59b1 : (t375 != t371) = true := bne_iff_ne.mpr c59
           exact absurd (H.trans (congrArg some hr_.out)) (by simp)
     ·replace c38 := Bool.eq_false_iff.mpr c38
      subst c38
      have H1 : (some false) = some r := by rw [if_neg (show ¬ (false = true) by decide)] at H; exact H
      clear H
      have H := H1
      clear H1
      exact absurd (H.trans (congrArg some hr_.out)) (by simp)

end Go.Proofs.Ytllgmgpfdnofmaa.PFnExactGetNode
