-- Written by a program of this session, which builds on the kit's print
import Derived.Test.YthpiinnmmdaloaaZCHPFnChildrenx0
import Derived.Test.YthpiinnmmdaloaaZCHPFnChildrenx1
import Derived.Test.YthpiinnmmdaloaaZCHPFnChildrenx2
import Derived.Test.YthpiinnmmdaloaaZCHPFnChildrenx5
import Derived.Test.YthpiinnmmdaloaaZCHPFnChildrenx7
import Derived.Test.YthpiinnmmdaloaaZCHPFnChildrenx10
namespace Go.Proofs.Ythpiinnmmdaloaa.PFnChildren
open Go.RowKit Go.Proofs.YthpiinnmmdaloaaW.PrintWords Go.Proofs.YthpiinnmmdaloaaW.PrintLast Go.Proofs.YthpiinnmmdaloaaW.PrintMore Go.Proofs.Ythpiinnmmdaloaa.Xtra
attribute [local go_sem] max2_int min2_int max_two min_two max_three min_three max_four min_four str_leq str_gtr str_geq setCell_drewN cell_set2 cell_set3   -- for this text's walks alone
set_option linter.unusedVariables false
set_option linter.unusedSimpArgs false

/-! ### laws_FnChildren: function 13 -/
def laws_FnChildren.j0 : Nat → ByteArray → Int → Bool → Bool → List ByteArray → List ByteArray → List Int → Option (Bool)
  | 0, _, _, _, _, _, _, _ => none
  | k + 1, x4, x5, x36, x398000, x398001, x398002, x398003 => if x36 = true then (some false) else ((spec_NodeOk.f k x398000 x398001 x398002 x398003).bind fun t424 => (if t424 = true then (if x5 = 0 then (if x5 = (x398001.length : Int) then (some true) else (if 0 ≤ x5 then (if x5 < (x398001.length : Int) then (some (Op.bytesLess x4.toList ((rdOf ByteArray.empty x398001 x5).toList))) else (none)) else (none))) else (if 0 ≤ (wrap64 (x5 - 1)) then (if (wrap64 (x5 - 1)) < (x398001.length : Int) then (if ((Op.bytesLess x4.toList ((rdOf ByteArray.empty x398001 (wrap64 (x5 - 1))).toList)) = true) then (some false) else (if x5 = (x398001.length : Int) then (some true) else (if 0 ≤ x5 then (if x5 < (x398001.length : Int) then (some (Op.bytesLess x4.toList ((rdOf ByteArray.empty x398001 x5).toList))) else (none)) else (none)))) else (none)) else (none))) else (if x5 ≥ 0 then (some (decide (x5 ≤ (x398001.length : Int)))) else (some false))))
def laws_FnChildren.f (k : Nat) (l0 : List Int) : Option (Bool) := (laws_big.f l0).bind fun t385 => (if t385 = true then (some true) else ((spec_DrawChildOf.f k l0).bind fun bt386 => ((impl_ChildOf.f k bt386.1 bt386.2.1 bt386.2.2.1 bt386.2.2.2.1 bt386.2.2.2.2).bind fun t398 => ((spec_DrawSameNode.f k l0).bind fun bt399 => ((spec_ChildOf.f k bt386.1 bt386.2.1 bt386.2.2.1 bt386.2.2.2.1 bt386.2.2.2.2).bind fun t421 => (if t398 = t421 then ((impl_SameNode.f k bt399.1 bt399.2.1 bt399.2.2.1 bt399.2.2.2.1 bt399.2.2.2.2.1 bt399.2.2.2.2.2.1 bt399.2.2.2.2.2.2.1 bt399.2.2.2.2.2.2.2).bind fun t422 => ((spec_SameNode.f k bt399.1 bt399.2.1 bt399.2.2.1 bt399.2.2.2.1 bt399.2.2.2.2.1 bt399.2.2.2.2.2.1 bt399.2.2.2.2.2.2.1 bt399.2.2.2.2.2.2.2).bind fun t423 => (laws_FnChildren.j0 k bt386.2.2.2.2 t398 (t422 != t423) bt386.1 bt386.2.1 bt386.2.2.1 bt386.2.2.2.1))) else (laws_FnChildren.j0 k bt386.2.2.2.2 t398 true bt386.1 bt386.2.1 bt386.2.2.1 bt386.2.2.2.1)))))))
theorem laws_FnChildren.mono_l : ∀ k, (∀ y0 y1 y2 y3 y4 y5 y6, LeO (laws_FnChildren.j0 k y0 y1 y2 y3 y4 y5 y6) (laws_FnChildren.j0 (k + 1) y0 y1 y2 y3 y4 y5 y6))
  | 0 => fun _ _ _ _ _ _ _ r h => by simp [laws_FnChildren.j0] at h
  | k + 1 => by
    have ih0 := laws_FnChildren.mono_l k
    · intro y0 y1 y2 y3 y4 y5 y6
      unfold laws_FnChildren.j0
      repeat' first
      | (with_reducible exact ih0 _ _ _ _ _ _ _)
      | (with_reducible exact impl_ChildOf.mono _ _ _ _ _ _)
      | (with_reducible exact impl_SameNode.mono _ _ _ _ _ _ _ _ _)
      | (with_reducible exact spec_ChildOf.mono _ _ _ _ _ _)
      | (with_reducible exact spec_DrawChildOf.mono _ _)
      | (with_reducible exact spec_DrawSameNode.mono _ _)
      | (with_reducible exact spec_NodeOk.mono _ _ _ _ _)
      | (with_reducible exact spec_SameNode.mono _ _ _ _ _ _ _ _ _)
      | (with_reducible exact LeO.refl _)
      | (with_reducible exact LeO.none _)
      | (with_reducible refine LeO.ite ?_ ?_)
      | (with_reducible refine LeO.bind ?_ (fun _ => ?_))
      | exact ih0 _ _ _ _ _ _ _
      | exact impl_ChildOf.mono _ _ _ _ _ _
      | exact impl_SameNode.mono _ _ _ _ _ _ _ _ _
      | exact spec_ChildOf.mono _ _ _ _ _ _
      | exact spec_DrawChildOf.mono _ _
      | exact spec_DrawSameNode.mono _ _
      | exact spec_NodeOk.mono _ _ _ _ _
      | exact spec_SameNode.mono _ _ _ _ _ _ _ _ _
      | exact LeO.none _
      | refine LeO.ite ?_ ?_
      | refine LeO.bind ?_ (fun _ => ?_)
theorem laws_FnChildren.mono : ∀ a0 k, LeO (laws_FnChildren.f k a0) (laws_FnChildren.f (k + 1) a0) := by
  intro a0 k
  have ih0 := laws_FnChildren.mono_l k
  unfold laws_FnChildren.f
  repeat' first
      | (with_reducible exact ih0 _ _ _ _ _ _ _)
      | (with_reducible exact impl_ChildOf.mono _ _ _ _ _ _)
      | (with_reducible exact impl_SameNode.mono _ _ _ _ _ _ _ _ _)
      | (with_reducible exact spec_ChildOf.mono _ _ _ _ _ _)
      | (with_reducible exact spec_DrawChildOf.mono _ _)
      | (with_reducible exact spec_DrawSameNode.mono _ _)
      | (with_reducible exact spec_NodeOk.mono _ _ _ _ _)
      | (with_reducible exact spec_SameNode.mono _ _ _ _ _ _ _ _ _)
      | (with_reducible exact LeO.refl _)
      | (with_reducible exact LeO.none _)
      | (with_reducible refine LeO.ite ?_ ?_)
      | (with_reducible refine LeO.bind ?_ (fun _ => ?_))
      | exact ih0 _ _ _ _ _ _ _
      | exact impl_ChildOf.mono _ _ _ _ _ _
      | exact impl_SameNode.mono _ _ _ _ _ _ _ _ _
      | exact spec_ChildOf.mono _ _ _ _ _ _
      | exact spec_DrawChildOf.mono _ _
      | exact spec_DrawSameNode.mono _ _
      | exact spec_NodeOk.mono _ _ _ _ _
      | exact spec_SameNode.mono _ _ _ _ _ _ _ _ _
      | exact LeO.none _
      | refine LeO.ite ?_ ?_
      | refine LeO.bind ?_ (fun _ => ?_)
def laws_FnChildren.T6 : Bool × List (List Nat × List Nat) := (true, [([], []), ([], []), ([], []), ([1, 2], [1, 2]), ([0, 3], [0, 3]), ([4, 3], [4]), ([5], [5]), ([5], [5]), ([6, 7, 5, 5], [5, 6, 7]), ([5], [5]), ([5], [5]), ([9, 10, 8, 5], [5, 9, 10]), ([8, 11, 5], [5, 8, 11]), ([5, 12], [5, 12])])
def laws_FnChildren.B6 : List Nat := [0, 0, 0, 6, 15, 31, 63, 63, 255, 63, 63, 2047, 4095, 8191]
theorem laws_FnChildren.tab6 : rtab .any (opsOf Try.f13 6) = laws_FnChildren.T6 := by kernel_rfl
theorem laws_FnChildren.bits6 : waitsOk laws_FnChildren.T6.2 laws_FnChildren.B6 = true := by kernel_rfl
set_option maxHeartbeats 8000000 in
set_option maxRecDepth 100000 in
theorem laws_FnChildren.calls (k : Nat) (A0 : Option Addr) (c0 : Nat) (l0 : List Int) (r : Bool) (w : World) (hr0 : Kd.C (Kd.int .u8) w A0 l0.length l0) (hc0 : l0.length ≤ c0) (h : laws_FnChildren.f k l0 = some r) :
    Calls Try.prog 13 #[.slice A0 l0.length c0] w fun e w' => e = .returned (.bool r) ∧ Below w.heap.size w w' := by
  have hu41 := Try.underlying41
  have HR0 := Aside0.mk hr0
  have HC0 := Aside0.mk hc0
  clear hr0 hc0
  have HB := Aside0.mk (Below.refl w.heap.size w)
  have H : ((laws_big.f l0).bind fun t385 => (if t385 = true then (some true) else ((spec_DrawChildOf.f k l0).bind fun bt386 => ((impl_ChildOf.f k bt386.1 bt386.2.1 bt386.2.2.1 bt386.2.2.2.1 bt386.2.2.2.2).bind fun t398 => ((spec_DrawSameNode.f k l0).bind fun bt399 => ((spec_ChildOf.f k bt386.1 bt386.2.1 bt386.2.2.1 bt386.2.2.2.1 bt386.2.2.2.2).bind fun t421 => (if t398 = t421 then ((impl_SameNode.f k bt399.1 bt399.2.1 bt399.2.2.1 bt399.2.2.2.1 bt399.2.2.2.2.1 bt399.2.2.2.2.2.1 bt399.2.2.2.2.2.2.1 bt399.2.2.2.2.2.2.2).bind fun t422 => ((spec_SameNode.f k bt399.1 bt399.2.1 bt399.2.2.1 bt399.2.2.2.1 bt399.2.2.2.2.1 bt399.2.2.2.2.2.1 bt399.2.2.2.2.2.2.1 bt399.2.2.2.2.2.2.2).bind fun t423 => (laws_FnChildren.j0 k bt386.2.2.2.2 t398 (t422 != t423) bt386.1 bt386.2.1 bt386.2.2.1 bt386.2.2.2.1))) else (laws_FnChildren.j0 k bt386.2.2.2.2 t398 true bt386.1 bt386.2.1 bt386.2.2.1 bt386.2.2.2.1)))))))) = some r := h
  clear h
  replace H := Option.bind_eq_some_iff.mp H
  obtain ⟨t385, A20, H⟩ := H
  replace H : (if t385 = true then (some true) else ((spec_DrawChildOf.f k l0).bind fun bt386 => ((impl_ChildOf.f k bt386.1 bt386.2.1 bt386.2.2.1 bt386.2.2.2.1 bt386.2.2.2.2).bind fun t398 => ((spec_DrawSameNode.f k l0).bind fun bt399 => ((spec_ChildOf.f k bt386.1 bt386.2.1 bt386.2.2.1 bt386.2.2.2.1 bt386.2.2.2.2).bind fun t421 => (if t398 = t421 then ((impl_SameNode.f k bt399.1 bt399.2.1 bt399.2.2.1 bt399.2.2.2.1 bt399.2.2.2.2.1 bt399.2.2.2.2.2.1 bt399.2.2.2.2.2.2.1 bt399.2.2.2.2.2.2.2).bind fun t422 => ((spec_SameNode.f k bt399.1 bt399.2.1 bt399.2.2.1 bt399.2.2.2.1 bt399.2.2.2.2.1 bt399.2.2.2.2.2.1 bt399.2.2.2.2.2.2.1 bt399.2.2.2.2.2.2.2).bind fun t423 => (laws_FnChildren.j0 k bt386.2.2.2.2 t398 (t422 != t423) bt386.1 bt386.2.1 bt386.2.2.1 bt386.2.2.2.1))) else (laws_FnChildren.j0 k bt386.2.2.2.2 t398 true bt386.1 bt386.2.1 bt386.2.2.1 bt386.2.2.2.1))))))) = some r := H
  have A2 := Aside0.mk A20
  clear A20
  by_cases c3 : t385 = true
  · subst c3
    have H1 : (some true) = some r := by rw [if_pos rfl] at H; exact H
    clear H
    have H := H1
    clear H1
    obtain rfl := Option.some.inj H
    go_enter Try.func13, Try.ntmps13
    go_wp2_with (first | ((with_reducible refine gate_callee (f := 35) rfl ?_); refine goesL_ (some 9) rfl rfl Try.func35 (by kernel_rfl) rfl #[.slice A0 l0.length c0] rfl (by (try simp only [List.map_toArray, List.map_cons, List.map_nil]); first | done | rfl | (simp only [List.length_drop, List.length_take]; rfl)) ?_; (with_reducible refine (laws_big.calls _ _ l0 true _ ?side1 ?side2 A2.out).mono ?_); (case side1 => repeat (first | exact HR0.out | (with_reducible refine Kd.C_alloc ?_ _) | (with_reducible refine Kd.C_drewN ?_ _) | (with_reducible refine Kd.C_drew ?_))); (case side2 => exact HC0.out); rintro e w' ⟨rfl, ⟨nd, rfl⟩⟩; refine ⟨_, rfl, ?_⟩))
    go_ret
    exact ⟨by first | rfl | (simp [errW_none, errW_some] <;> rfl) | (simp [*, errW_none, errW_some] <;> rfl), by repeat (first | (with_reducible first | exact HB.out | apply below_alloc | apply pw_below_drewN | apply below_drew1) | exact HB.out)⟩
  · replace c3 := Bool.eq_false_iff.mpr c3
    subst c3
    have H1 : ((spec_DrawChildOf.f k l0).bind fun bt386 => ((impl_ChildOf.f k bt386.1 bt386.2.1 bt386.2.2.1 bt386.2.2.2.1 bt386.2.2.2.2).bind fun t398 => ((spec_DrawSameNode.f k l0).bind fun bt399 => ((spec_ChildOf.f k bt386.1 bt386.2.1 bt386.2.2.1 bt386.2.2.2.1 bt386.2.2.2.2).bind fun t421 => (if t398 = t421 then ((impl_SameNode.f k bt399.1 bt399.2.1 bt399.2.2.1 bt399.2.2.2.1 bt399.2.2.2.2.1 bt399.2.2.2.2.2.1 bt399.2.2.2.2.2.2.1 bt399.2.2.2.2.2.2.2).bind fun t422 => ((spec_SameNode.f k bt399.1 bt399.2.1 bt399.2.2.1 bt399.2.2.2.1 bt399.2.2.2.2.1 bt399.2.2.2.2.2.1 bt399.2.2.2.2.2.2.1 bt399.2.2.2.2.2.2.2).bind fun t423 => (laws_FnChildren.j0 k bt386.2.2.2.2 t398 (t422 != t423) bt386.1 bt386.2.1 bt386.2.2.1 bt386.2.2.2.1))) else (laws_FnChildren.j0 k bt386.2.2.2.2 t398 true bt386.1 bt386.2.1 bt386.2.2.1 bt386.2.2.2.1)))))) = some r := by rw [if_neg (show ¬ (false = true) by decide)] at H; exact H
    clear H
    have H := H1
    clear H1
    replace H := Option.bind_eq_some_iff.mp H
    obtain ⟨⟨t386, t387, t390, t393, t396⟩, A40, H⟩ := H
    replace H : ((impl_ChildOf.f k t386 t387 t390 t393 t396).bind fun t398 => ((spec_DrawSameNode.f k l0).bind fun bt399 => ((spec_ChildOf.f k t386 t387 t390 t393 t396).bind fun t421 => (if t398 = t421 then ((impl_SameNode.f k bt399.1 bt399.2.1 bt399.2.2.1 bt399.2.2.2.1 bt399.2.2.2.2.1 bt399.2.2.2.2.2.1 bt399.2.2.2.2.2.2.1 bt399.2.2.2.2.2.2.2).bind fun t422 => ((spec_SameNode.f k bt399.1 bt399.2.1 bt399.2.2.1 bt399.2.2.2.1 bt399.2.2.2.2.1 bt399.2.2.2.2.2.1 bt399.2.2.2.2.2.2.1 bt399.2.2.2.2.2.2.2).bind fun t423 => (laws_FnChildren.j0 k t396 t398 (t422 != t423) t386 t387 t390 t393))) else (laws_FnChildren.j0 k t396 t398 true t386 t387 t390 t393))))) = some r := H
    have A4 := Aside0.mk A40
    clear A40
    replace H := Option.bind_eq_some_iff.mp H
    obtain ⟨t398, A50, H⟩ := H
    replace H : ((spec_DrawSameNode.f k l0).bind fun bt399 => ((spec_ChildOf.f k t386 t387 t390 t393 t396).bind fun t421 => (if t398 = t421 then ((impl_SameNode.f k bt399.1 bt399.2.1 bt399.2.2.1 bt399.2.2.2.1 bt399.2.2.2.2.1 bt399.2.2.2.2.2.1 bt399.2.2.2.2.2.2.1 bt399.2.2.2.2.2.2.2).bind fun t422 => ((spec_SameNode.f k bt399.1 bt399.2.1 bt399.2.2.1 bt399.2.2.2.1 bt399.2.2.2.2.1 bt399.2.2.2.2.2.1 bt399.2.2.2.2.2.2.1 bt399.2.2.2.2.2.2.2).bind fun t423 => (laws_FnChildren.j0 k t396 t398 (t422 != t423) t386 t387 t390 t393))) else (laws_FnChildren.j0 k t396 t398 true t386 t387 t390 t393)))) = some r := H
    have A5 := Aside0.mk A50
    clear A50
    replace H := Option.bind_eq_some_iff.mp H
    obtain ⟨⟨t399, t400, t403, t406, t409, t410, t413, t416⟩, A60, H⟩ := H
    replace H : ((spec_ChildOf.f k t386 t387 t390 t393 t396).bind fun t421 => (if t398 = t421 then ((impl_SameNode.f k t399 t400 t403 t406 t409 t410 t413 t416).bind fun t422 => ((spec_SameNode.f k t399 t400 t403 t406 t409 t410 t413 t416).bind fun t423 => (laws_FnChildren.j0 k t396 t398 (t422 != t423) t386 t387 t390 t393))) else (laws_FnChildren.j0 k t396 t398 true t386 t387 t390 t393))) = some r := H
    have A6 := Aside0.mk A60
    clear A60
    have HC7 := Aside0.mk H
    clear H
    go_enter Try.func13, Try.ntmps13
    go_upto_region 6 with (first | ((with_reducible refine gate_callee (f := 35) rfl ?_); refine goesL_ (some 9) rfl rfl Try.func35 (by kernel_rfl) rfl #[.slice A0 l0.length c0] rfl (by (try simp only [List.map_toArray, List.map_cons, List.map_nil]); first | done | rfl | (simp only [List.length_drop, List.length_take]; rfl)) ?_; (with_reducible refine (laws_big.calls _ _ l0 false _ ?side1 ?side2 A2.out).mono ?_); (case side1 => repeat (first | exact HR0.out | (with_reducible refine Kd.C_alloc ?_ _) | (with_reducible refine Kd.C_drewN ?_ _) | (with_reducible refine Kd.C_drew ?_))); (case side2 => exact HC0.out); rintro e w' ⟨rfl, ⟨nd, rfl⟩⟩; refine ⟨_, rfl, ?_⟩) | ((with_reducible refine gate_callee (f := 57) rfl ?_); refine goesL_ (some 12) rfl rfl Try.func57 (by kernel_rfl) rfl #[.slice A0 l0.length c0] rfl (by (try simp only [List.map_toArray, List.map_cons, List.map_nil]); first | done | rfl | (simp only [List.length_drop, List.length_take]; rfl)) ?_; (with_reducible refine (spec_DrawChildOf.calls k _ _ l0 t386 t387 t390 t393 t396 _ ?side1 ?side2 A4.out).mono ?_); (case side1 => repeat (first | exact HR0.out | (with_reducible refine Kd.C_alloc ?_ _) | (with_reducible refine Kd.C_drewN ?_ _) | (with_reducible refine Kd.C_drew ?_))); (case side2 => exact HC0.out); rintro e w8 ⟨v388, v391, v394, rfl, ho0, ho1, ho2, hb⟩; refine ⟨_, rfl, ?_⟩; have n0_ := Aside0.mk (Kd.R_lower ho0 (below_size (by repeat (first | (with_reducible first | exact HB.out | apply below_alloc | apply pw_below_drewN | apply below_drew1) | exact HB.out)))); have n1_ := Aside0.mk (Kd.R_lower ho1 (below_size (by repeat (first | (with_reducible first | exact HB.out | apply below_alloc | apply pw_below_drewN | apply below_drew1) | exact HB.out)))); have n2_ := Aside0.mk (Kd.R_lower ho2 (below_size (by repeat (first | (with_reducible first | exact HB.out | apply below_alloc | apply pw_below_drewN | apply below_drew1) | exact HB.out)))); have n3_ := Aside0.mk (below_step (by repeat (first | (with_reducible first | exact HB.out | apply below_alloc | apply pw_below_drewN | apply below_drew1) | exact HB.out)) hb); clear HB; have HO389 := n0_; have HO392 := n1_; have HO395 := n2_; have HB := n3_; clear n0_ n1_ n2_ n3_; (try clear hb); (try clear hb2); (try clear hk); (try clear hi); (try clear ho0); (try clear ho1); (try clear ho2)) | ((with_reducible refine gate_dst (N := 3) rfl ?_); (try (refine gate_guard (by rfl) ?_; dsimp only)); refine box_event ?hg (N := 3) ?hd (cs := #[.bool false, .slice none 0 0, .slice none 0 0, .slice none 0 0]) (t := 41) ?hr ?_; (case hd => rfl); (case hg => rfl); (case hr => first | (go_simp; done) | (go_simp; rfl)); intro gb397 hg w9 hbox hb; have n0_ := Aside0.mk (Kd.R_below (by (with_reducible repeat (first | apply Kd.R_alloc | apply Kd.R_drewN | apply Kd.R_drew)); exact HO389.out) hb); have n1_ := Aside0.mk (Kd.R_below (by (with_reducible repeat (first | apply Kd.R_alloc | apply Kd.R_drewN | apply Kd.R_drew)); exact HO392.out) hb); have n2_ := Aside0.mk (Kd.R_below (by (with_reducible repeat (first | apply Kd.R_alloc | apply Kd.R_drewN | apply Kd.R_drew)); exact HO395.out) hb); have n3_ := Aside0.mk (below_step (by repeat (first | (with_reducible first | exact HB.out | apply below_alloc | apply pw_below_drewN | apply below_drew1) | exact HB.out)) hb); have n4_ := Aside0.mk (hbox); have n5_ := Aside0.mk ((by rw [hg]; exact (below_size (by repeat (first | (with_reducible first | exact HB.out | apply below_alloc | apply pw_below_drewN | apply below_drew1) | exact HB.out))) : w.heap.size ≤ gb397)); have n6_ := Aside0.mk ((by rw [hg]; exact (below_size (by repeat (first | (with_reducible first | exact HB.out | apply below_alloc | apply pw_below_drewN | apply below_drew1) | exact HB.out))) : w.heap.size ≤ gb397)); clear HO389; clear HO392; clear HO395; clear HB; have HO389 := n0_; have HO392 := n1_; have HO395 := n2_; have HB := n3_; have BK397 := n4_; have GW397 := n5_; have GE397 := n6_; clear n0_ n1_ n2_ n3_ n4_ n5_ n6_; clear hb hbox hg; have hcz10_0 : w9.cell? ⟨gb397, 0, none⟩ = some (.bool false) := (blk_cell BK397.out 0).trans rfl; have hcz10_1 : w9.cell? ⟨gb397, 1, none⟩ = some (.slice none 0 0) := (blk_cell BK397.out 1).trans rfl; have hcz10_2 : w9.cell? ⟨gb397, 2, none⟩ = some (.slice none 0 0) := (blk_cell BK397.out 2).trans rfl; have hcz10_3 : w9.cell? ⟨gb397, 3, none⟩ = some (.slice none 0 0) := (blk_cell BK397.out 3).trans rfl; have hfz10_0 := blk_frozen BK397.out 0; have hfz10_1 := blk_frozen BK397.out 1; have hfz10_2 := blk_frozen BK397.out 2; have hfz10_3 := blk_frozen BK397.out 3; obtain ⟨Ao11, co11, eo11⟩ := Kd.R_slice HO389.out; subst eo11; obtain ⟨Ao12, co12, eo12⟩ := Kd.R_slice HO392.out; subst eo12; obtain ⟨Ao13, co13, eo13⟩ := Kd.R_slice HO395.out; subst eo13) | ((with_reducible refine gate_callee (f := 28) rfl ?_); refine goesL_ (some 17) rfl rfl Try.func28 (by kernel_rfl) rfl #[.agg #[.bool t386, .slice Ao11 t387.length co11, .slice Ao12 t390.length co12, .slice Ao13 t393.length co13], .string t396] rfl (by (try simp only [List.map_toArray, List.map_cons, List.map_nil]); first | done | rfl | (simp only [List.length_drop, List.length_take]; rfl)) ?_; (with_reducible refine (impl_ChildOf.calls k t386 _ _ t387 _ _ t390 _ _ t393 t396 t398 _ ?side1 ?side2 ?side3 ?side4 ?side5 ?side6 A5.out).mono ?_); (case side1 => refine (Kd.R_reads' (e := 9) (base := w.heap.size) (ok := fun k_ => some k_ ≠ (.slice Ao12 t390.length co12 : Value).ownBlock) (n := t387.length) (c := co11) ?_).2.2; exact (by (with_reducible repeat (first | apply Kd.R_alloc | apply Kd.R_drewN | apply Kd.R_drew)); exact (Kd.R_mono (Kd.R_far (p := ⟨gb397, 3, none⟩) (Kd.R_far (p := ⟨gb397, 2, none⟩) (Kd.R_far (p := ⟨gb397, 1, none⟩) (Kd.R_far (p := ⟨gb397, 0, none⟩) (Kd.R_types HO389.out BK397.out (by decide)) (fun _ hk => hk.2) (.bool t386)) (fun _ hk => hk.2) (.slice Ao11 t387.length co11)) (fun _ hk => hk.2) (.slice Ao12 t390.length co12)) (fun _ hk => hk.2) (.slice Ao13 t393.length co13)) (fun _ h_ => h_.1)))); (case side2 => exact (Kd.R_reads' HO389.out).2.1); (case side3 => refine (Kd.R_reads' (e := 9) (base := w.heap.size) (ok := fun k_ => some k_ ≠ (.slice Ao11 t387.length co11 : Value).ownBlock) (n := t390.length) (c := co12) ?_).2.2; exact (by (with_reducible repeat (first | apply Kd.R_alloc | apply Kd.R_drewN | apply Kd.R_drew)); exact (Kd.R_mono (Kd.R_far (p := ⟨gb397, 3, none⟩) (Kd.R_far (p := ⟨gb397, 2, none⟩) (Kd.R_far (p := ⟨gb397, 1, none⟩) (Kd.R_far (p := ⟨gb397, 0, none⟩) (Kd.R_types HO392.out BK397.out (by decide)) (fun _ hk => hk.2) (.bool t386)) (fun _ hk => hk.2) (.slice Ao11 t387.length co11)) (fun _ hk => hk.2) (.slice Ao12 t390.length co12)) (fun _ hk => hk.2) (.slice Ao13 t393.length co13)) (fun _ h_ => h_.1)))); (case side4 => exact (Kd.R_reads' HO392.out).2.1); (case side5 => refine (Kd.R_reads' (e := 3) (base := w.heap.size) (ok := fun k_ => True) (n := t393.length) (c := co13) ?_).2.2; exact (by (with_reducible repeat (first | apply Kd.R_alloc | apply Kd.R_drewN | apply Kd.R_drew)); exact (Kd.R_mono (Kd.R_far (p := ⟨gb397, 3, none⟩) (Kd.R_far (p := ⟨gb397, 2, none⟩) (Kd.R_far (p := ⟨gb397, 1, none⟩) (Kd.R_far (p := ⟨gb397, 0, none⟩) (Kd.R_types HO395.out BK397.out (by decide)) (fun _ hk => hk.2) (.bool t386)) (fun _ hk => hk.2) (.slice Ao11 t387.length co11)) (fun _ hk => hk.2) (.slice Ao12 t390.length co12)) (fun _ hk => hk.2) (.slice Ao13 t393.length co13)) (fun _ h_ => h_.1)))); (case side6 => exact (Kd.R_reads' HO395.out).2.1); rintro e w14 ⟨rfl, hb⟩; refine ⟨_, rfl, ?_⟩; have n0_ := Aside0.mk (Kd.R_below (by (with_reducible repeat (first | apply Kd.R_alloc | apply Kd.R_drewN | apply Kd.R_drew)); exact (Kd.R_mono (Kd.R_far (p := ⟨gb397, 3, none⟩) (Kd.R_far (p := ⟨gb397, 2, none⟩) (Kd.R_far (p := ⟨gb397, 1, none⟩) (Kd.R_far (p := ⟨gb397, 0, none⟩) (Kd.R_types HO389.out BK397.out (by decide)) (fun _ hk => hk.2) (.bool t386)) (fun _ hk => hk.2) (.slice Ao11 t387.length co11)) (fun _ hk => hk.2) (.slice Ao12 t390.length co12)) (fun _ hk => hk.2) (.slice Ao13 t393.length co13)) (fun _ h_ => h_.1))) hb); have n1_ := Aside0.mk (Kd.R_below (by (with_reducible repeat (first | apply Kd.R_alloc | apply Kd.R_drewN | apply Kd.R_drew)); exact (Kd.R_mono (Kd.R_far (p := ⟨gb397, 3, none⟩) (Kd.R_far (p := ⟨gb397, 2, none⟩) (Kd.R_far (p := ⟨gb397, 1, none⟩) (Kd.R_far (p := ⟨gb397, 0, none⟩) (Kd.R_types HO392.out BK397.out (by decide)) (fun _ hk => hk.2) (.bool t386)) (fun _ hk => hk.2) (.slice Ao11 t387.length co11)) (fun _ hk => hk.2) (.slice Ao12 t390.length co12)) (fun _ hk => hk.2) (.slice Ao13 t393.length co13)) (fun _ h_ => h_.1))) hb); have n2_ := Aside0.mk (Kd.R_below (by (with_reducible repeat (first | apply Kd.R_alloc | apply Kd.R_drewN | apply Kd.R_drew)); exact (Kd.R_mono (Kd.R_far (p := ⟨gb397, 3, none⟩) (Kd.R_far (p := ⟨gb397, 2, none⟩) (Kd.R_far (p := ⟨gb397, 1, none⟩) (Kd.R_far (p := ⟨gb397, 0, none⟩) (Kd.R_types HO395.out BK397.out (by decide)) (fun _ hk => hk.2) (.bool t386)) (fun _ hk => hk.2) (.slice Ao11 t387.length co11)) (fun _ hk => hk.2) (.slice Ao12 t390.length co12)) (fun _ hk => hk.2) (.slice Ao13 t393.length co13)) (fun _ h_ => h_.1))) hb); have n3_ := Aside0.mk (blk_below (g := gb397) (o := .cells #[.bool t386, .slice Ao11 t387.length co11, .slice Ao12 t390.length co12, .slice Ao13 t393.length co13] 41 (0, 0)) (by (with_reducible repeat (first | refine blk_drewN ?_ _ | refine blk_drew ?_ | refine blk_alloc ?_ _)); refine blk_put (cs := #[.bool t386, .slice Ao11 t387.length co11, .slice Ao12 t390.length co12, .slice none 0 0]) ?_ 3 _ rfl; (with_reducible repeat (first | refine blk_drewN ?_ _ | refine blk_drew ?_ | refine blk_alloc ?_ _)); refine blk_put (cs := #[.bool t386, .slice Ao11 t387.length co11, .slice none 0 0, .slice none 0 0]) ?_ 2 _ rfl; (with_reducible repeat (first | refine blk_drewN ?_ _ | refine blk_drew ?_ | refine blk_alloc ?_ _)); refine blk_put (cs := #[.bool t386, .slice none 0 0, .slice none 0 0, .slice none 0 0]) ?_ 1 _ rfl; (with_reducible repeat (first | refine blk_drewN ?_ _ | refine blk_drew ?_ | refine blk_alloc ?_ _)); refine blk_put (cs := #[.bool false, .slice none 0 0, .slice none 0 0, .slice none 0 0]) ?_ 0 _ rfl; (with_reducible repeat (first | refine blk_drewN ?_ _ | refine blk_drew ?_ | refine blk_alloc ?_ _)); exact BK397.out) hb); have n4_ := Aside0.mk (below_step (by repeat (first | (with_reducible first | exact HB.out | apply below_alloc | apply pw_below_drewN | apply below_drew1 | refine below_set ?_ GE397.out) | exact HB.out)) hb); clear HO389; clear HO392; clear HO395; clear BK397; clear HB; have HO389 := n0_; have HO392 := n1_; have HO395 := n2_; have BK397 := n3_; have HB := n4_; clear n0_ n1_ n2_ n3_ n4_; (try clear hb); (try clear hb2); (try clear hk); (try clear hi)) | ((with_reducible refine gate_callee (f := 58) rfl ?_); refine goesL_ (some 20) rfl rfl Try.func58 (by kernel_rfl) rfl #[.slice A0 l0.length c0] rfl (by (try simp only [List.map_toArray, List.map_cons, List.map_nil]); first | done | rfl | (simp only [List.length_drop, List.length_take]; rfl)) ?_; (with_reducible refine (spec_DrawSameNode.calls k _ _ l0 t399 t400 t403 t406 t409 t410 t413 t416 _ ?side1 ?side2 A6.out).mono ?_); (case side1 => repeat (first | exact (Kd.C_below HR0.out HB.out) | (with_reducible refine Kd.C_alloc ?_ _) | (with_reducible refine Kd.C_drewN ?_ _) | (with_reducible refine Kd.C_drew ?_))); (case side2 => exact HC0.out); rintro e w15 ⟨v401, v404, v407, v411, v414, v417, rfl, ho0, ho1, ho2, ho3, ho4, ho5, hb⟩; refine ⟨_, rfl, ?_⟩; have n0_ := Aside0.mk (Kd.R_mono (Kd.R_told (Kd.R_told (Kd.R_told (Kd.R_told (Kd.R_old (by (with_reducible repeat (first | apply Kd.R_alloc | apply Kd.R_drewN | apply Kd.R_drew)); exact HO389.out) hb) (Kd.R_base ho0)) (Kd.R_base ho1)) (Kd.R_base ho3)) (Kd.R_base ho4)) (fun _ h_ => h_.1)); have n1_ := Aside0.mk (Kd.R_mono (Kd.R_told (Kd.R_told (Kd.R_told (Kd.R_told (Kd.R_old (by (with_reducible repeat (first | apply Kd.R_alloc | apply Kd.R_drewN | apply Kd.R_drew)); exact HO392.out) hb) (Kd.R_base ho0)) (Kd.R_base ho1)) (Kd.R_base ho3)) (Kd.R_base ho4)) (fun _ h_ => h_.1)); have n2_ := Aside0.mk (Kd.R_mono (Kd.R_told (Kd.R_told (Kd.R_old (by (with_reducible repeat (first | apply Kd.R_alloc | apply Kd.R_drewN | apply Kd.R_drew)); exact HO395.out) hb) (Kd.R_base ho2)) (Kd.R_base ho5)) (fun _ h_ => h_.1)); have n3_ := Aside0.mk (Kd.R_lower (Kd.R_new' (Kd.R_new' ho0 (Kd.R_lt (by (with_reducible repeat (first | apply Kd.R_alloc | apply Kd.R_drewN | apply Kd.R_drew)); exact HO389.out))) (Kd.R_lt (by (with_reducible repeat (first | apply Kd.R_alloc | apply Kd.R_drewN | apply Kd.R_drew)); exact HO392.out))) (below_size (by repeat (first | (with_reducible first | exact HB.out | apply below_alloc | apply pw_below_drewN | apply below_drew1 | refine below_set ?_ GE397.out) | exact HB.out)))); have n4_ := Aside0.mk (Kd.R_lower (Kd.R_new' (Kd.R_new' ho1 (Kd.R_lt (by (with_reducible repeat (first | apply Kd.R_alloc | apply Kd.R_drewN | apply Kd.R_drew)); exact HO389.out))) (Kd.R_lt (by (with_reducible repeat (first | apply Kd.R_alloc | apply Kd.R_drewN | apply Kd.R_drew)); exact HO392.out))) (below_size (by repeat (first | (with_reducible first | exact HB.out | apply below_alloc | apply pw_below_drewN | apply below_drew1 | refine below_set ?_ GE397.out) | exact HB.out)))); have n5_ := Aside0.mk (Kd.R_lower (Kd.R_new' ho2 (Kd.R_lt (by (with_reducible repeat (first | apply Kd.R_alloc | apply Kd.R_drewN | apply Kd.R_drew)); exact HO395.out))) (below_size (by repeat (first | (with_reducible first | exact HB.out | apply below_alloc | apply pw_below_drewN | apply below_drew1 | refine below_set ?_ GE397.out) | exact HB.out)))); have n6_ := Aside0.mk (Kd.R_lower (Kd.R_new' (Kd.R_new' ho3 (Kd.R_lt (by (with_reducible repeat (first | apply Kd.R_alloc | apply Kd.R_drewN | apply Kd.R_drew)); exact HO389.out))) (Kd.R_lt (by (with_reducible repeat (first | apply Kd.R_alloc | apply Kd.R_drewN | apply Kd.R_drew)); exact HO392.out))) (below_size (by repeat (first | (with_reducible first | exact HB.out | apply below_alloc | apply pw_below_drewN | apply below_drew1 | refine below_set ?_ GE397.out) | exact HB.out)))); have n7_ := Aside0.mk (Kd.R_lower (Kd.R_new' (Kd.R_new' ho4 (Kd.R_lt (by (with_reducible repeat (first | apply Kd.R_alloc | apply Kd.R_drewN | apply Kd.R_drew)); exact HO389.out))) (Kd.R_lt (by (with_reducible repeat (first | apply Kd.R_alloc | apply Kd.R_drewN | apply Kd.R_drew)); exact HO392.out))) (below_size (by repeat (first | (with_reducible first | exact HB.out | apply below_alloc | apply pw_below_drewN | apply below_drew1 | refine below_set ?_ GE397.out) | exact HB.out)))); have n8_ := Aside0.mk (Kd.R_lower (Kd.R_new' ho5 (Kd.R_lt (by (with_reducible repeat (first | apply Kd.R_alloc | apply Kd.R_drewN | apply Kd.R_drew)); exact HO395.out))) (below_size (by repeat (first | (with_reducible first | exact HB.out | apply below_alloc | apply pw_below_drewN | apply below_drew1 | refine below_set ?_ GE397.out) | exact HB.out)))); have n9_ := Aside0.mk (blk_below (g := gb397) (o := .cells #[.bool t386, .slice Ao11 t387.length co11, .slice Ao12 t390.length co12, .slice Ao13 t393.length co13] 41 (0, 0)) (by (with_reducible repeat (first | refine blk_drewN ?_ _ | refine blk_drew ?_ | refine blk_alloc ?_ _)); exact BK397.out) hb); have n10_ := Aside0.mk (below_step (by repeat (first | (with_reducible first | exact HB.out | apply below_alloc | apply pw_below_drewN | apply below_drew1 | refine below_set ?_ GE397.out) | exact HB.out)) hb); clear HO389; clear HO392; clear HO395; clear BK397; clear HB; have HO389 := n0_; have HO392 := n1_; have HO395 := n2_; have HO402 := n3_; have HO405 := n4_; have HO408 := n5_; have HO412 := n6_; have HO415 := n7_; have HO418 := n8_; have BK397 := n9_; have HB := n10_; clear n0_ n1_ n2_ n3_ n4_ n5_ n6_ n7_ n8_ n9_ n10_; (try clear hb); (try clear hb2); (try clear hk); (try clear hi); (try clear ho0); (try clear ho1); (try clear ho2); (try clear ho3); (try clear ho4); (try clear ho5)) | ((with_reducible refine gate_dst (N := 6) rfl ?_); (try (refine gate_guard (by rfl) ?_; dsimp only)); refine box_event ?hg (N := 6) ?hd (cs := #[.bool false, .slice none 0 0, .slice none 0 0, .slice none 0 0]) (t := 41) ?hr ?_; (case hd => rfl); (case hg => rfl); (case hr => first | (go_simp; done) | (go_simp; rfl)); intro gb419 hg w16 hbox hb; have n0_ := Aside0.mk (Kd.R_below (by (with_reducible repeat (first | apply Kd.R_alloc | apply Kd.R_drewN | apply Kd.R_drew)); exact HO389.out) hb); have n1_ := Aside0.mk (Kd.R_below (by (with_reducible repeat (first | apply Kd.R_alloc | apply Kd.R_drewN | apply Kd.R_drew)); exact HO392.out) hb); have n2_ := Aside0.mk (Kd.R_below (by (with_reducible repeat (first | apply Kd.R_alloc | apply Kd.R_drewN | apply Kd.R_drew)); exact HO395.out) hb); have n3_ := Aside0.mk (Kd.R_below (by (with_reducible repeat (first | apply Kd.R_alloc | apply Kd.R_drewN | apply Kd.R_drew)); exact HO402.out) hb); have n4_ := Aside0.mk (Kd.R_below (by (with_reducible repeat (first | apply Kd.R_alloc | apply Kd.R_drewN | apply Kd.R_drew)); exact HO405.out) hb); have n5_ := Aside0.mk (Kd.R_below (by (with_reducible repeat (first | apply Kd.R_alloc | apply Kd.R_drewN | apply Kd.R_drew)); exact HO408.out) hb); have n6_ := Aside0.mk (Kd.R_below (by (with_reducible repeat (first | apply Kd.R_alloc | apply Kd.R_drewN | apply Kd.R_drew)); exact HO412.out) hb); have n7_ := Aside0.mk (Kd.R_below (by (with_reducible repeat (first | apply Kd.R_alloc | apply Kd.R_drewN | apply Kd.R_drew)); exact HO415.out) hb); have n8_ := Aside0.mk (Kd.R_below (by (with_reducible repeat (first | apply Kd.R_alloc | apply Kd.R_drewN | apply Kd.R_drew)); exact HO418.out) hb); have n9_ := Aside0.mk (blk_below (g := gb397) (o := .cells #[.bool t386, .slice Ao11 t387.length co11, .slice Ao12 t390.length co12, .slice Ao13 t393.length co13] 41 (0, 0)) (by (with_reducible repeat (first | refine blk_drewN ?_ _ | refine blk_drew ?_ | refine blk_alloc ?_ _)); exact BK397.out) hb); have n10_ := Aside0.mk (below_step (by repeat (first | (with_reducible first | exact HB.out | apply below_alloc | apply pw_below_drewN | apply below_drew1 | refine below_set ?_ GE397.out) | exact HB.out)) hb); have n11_ := Aside0.mk (hbox); have n12_ := Aside0.mk ((by rw [hg]; exact (below_size (by repeat (first | (with_reducible first | exact HB.out | apply below_alloc | apply pw_below_drewN | apply below_drew1 | refine below_set ?_ GE397.out) | exact HB.out))) : w.heap.size ≤ gb419)); have n13_ := Aside0.mk ((by rw [hg]; exact (below_size (by repeat (first | (with_reducible first | exact HB.out | apply below_alloc | apply pw_below_drewN | apply below_drew1 | refine below_set ?_ GE397.out) | exact HB.out))) : w.heap.size ≤ gb419)); have n14_ := Aside0.mk ((by rw [hg]; exact Nat.ne_of_lt (blk_lt (g := gb397) (o := .cells #[.bool t386, .slice Ao11 t387.length co11, .slice Ao12 t390.length co12, .slice Ao13 t393.length co13] 41 (0, 0)) (by (with_reducible repeat (first | refine blk_drewN ?_ _ | refine blk_drew ?_ | refine blk_alloc ?_ _)); exact BK397.out)) : gb397 ≠ gb419)); have n15_ := Aside0.mk ((by rw [hg]; exact Nat.ne_of_gt (blk_lt (g := gb397) (o := .cells #[.bool t386, .slice Ao11 t387.length co11, .slice Ao12 t390.length co12, .slice Ao13 t393.length co13] 41 (0, 0)) (by (with_reducible repeat (first | refine blk_drewN ?_ _ | refine blk_drew ?_ | refine blk_alloc ?_ _)); exact BK397.out)) : gb419 ≠ gb397)); clear HO389; clear HO392; clear HO395; clear HO402; clear HO405; clear HO408; clear HO412; clear HO415; clear HO418; clear BK397; clear HB; have HO389 := n0_; have HO392 := n1_; have HO395 := n2_; have HO402 := n3_; have HO405 := n4_; have HO408 := n5_; have HO412 := n6_; have HO415 := n7_; have HO418 := n8_; have BK397 := n9_; have HB := n10_; have BK419 := n11_; have GW419 := n12_; have GE419 := n13_; have NB397_419 := n14_; have NB419_397 := n15_; clear n0_ n1_ n2_ n3_ n4_ n5_ n6_ n7_ n8_ n9_ n10_ n11_ n12_ n13_ n14_ n15_; clear hb hbox hg) | ((with_reducible refine gate_dst (N := 7) rfl ?_); (try (refine gate_guard (by rfl) ?_; dsimp only)); refine box_event ?hg (N := 7) ?hd (cs := #[.bool false, .slice none 0 0, .slice none 0 0, .slice none 0 0]) (t := 41) ?hr ?_; (case hd => rfl); (case hg => rfl); (case hr => first | (go_simp; done) | (go_simp; rfl)); intro gb420 hg w17 hbox hb; have n0_ := Aside0.mk (Kd.R_below (by (with_reducible repeat (first | apply Kd.R_alloc | apply Kd.R_drewN | apply Kd.R_drew)); exact HO389.out) hb); have n1_ := Aside0.mk (Kd.R_below (by (with_reducible repeat (first | apply Kd.R_alloc | apply Kd.R_drewN | apply Kd.R_drew)); exact HO392.out) hb); have n2_ := Aside0.mk (Kd.R_below (by (with_reducible repeat (first | apply Kd.R_alloc | apply Kd.R_drewN | apply Kd.R_drew)); exact HO395.out) hb); have n3_ := Aside0.mk (Kd.R_below (by (with_reducible repeat (first | apply Kd.R_alloc | apply Kd.R_drewN | apply Kd.R_drew)); exact HO402.out) hb); have n4_ := Aside0.mk (Kd.R_below (by (with_reducible repeat (first | apply Kd.R_alloc | apply Kd.R_drewN | apply Kd.R_drew)); exact HO405.out) hb); have n5_ := Aside0.mk (Kd.R_below (by (with_reducible repeat (first | apply Kd.R_alloc | apply Kd.R_drewN | apply Kd.R_drew)); exact HO408.out) hb); have n6_ := Aside0.mk (Kd.R_below (by (with_reducible repeat (first | apply Kd.R_alloc | apply Kd.R_drewN | apply Kd.R_drew)); exact HO412.out) hb); have n7_ := Aside0.mk (Kd.R_below (by (with_reducible repeat (first | apply Kd.R_alloc | apply Kd.R_drewN | apply Kd.R_drew)); exact HO415.out) hb); have n8_ := Aside0.mk (Kd.R_below (by (with_reducible repeat (first | apply Kd.R_alloc | apply Kd.R_drewN | apply Kd.R_drew)); exact HO418.out) hb); have n9_ := Aside0.mk (blk_below (g := gb397) (o := .cells #[.bool t386, .slice Ao11 t387.length co11, .slice Ao12 t390.length co12, .slice Ao13 t393.length co13] 41 (0, 0)) (by (with_reducible repeat (first | refine blk_drewN ?_ _ | refine blk_drew ?_ | refine blk_alloc ?_ _)); exact BK397.out) hb); have n10_ := Aside0.mk (blk_below (g := gb419) (o := .cells #[.bool false, .slice none 0 0, .slice none 0 0, .slice none 0 0] 41 (0, 0)) (by (with_reducible repeat (first | refine blk_drewN ?_ _ | refine blk_drew ?_ | refine blk_alloc ?_ _)); exact BK419.out) hb); have n11_ := Aside0.mk (below_step (by repeat (first | (with_reducible first | exact HB.out | apply below_alloc | apply pw_below_drewN | apply below_drew1 | refine below_set ?_ GE397.out | refine below_set ?_ GE419.out) | exact HB.out)) hb); have n12_ := Aside0.mk (hbox); have n13_ := Aside0.mk ((by rw [hg]; exact (below_size (by repeat (first | (with_reducible first | exact HB.out | apply below_alloc | apply pw_below_drewN | apply below_drew1 | refine below_set ?_ GE397.out | refine below_set ?_ GE419.out) | exact HB.out))) : w.heap.size ≤ gb420)); have n14_ := Aside0.mk ((by rw [hg]; exact (below_size (by repeat (first | (with_reducible first | exact HB.out | apply below_alloc | apply pw_below_drewN | apply below_drew1 | refine below_set ?_ GE397.out | refine below_set ?_ GE419.out) | exact HB.out))) : w.heap.size ≤ gb420)); have n15_ := Aside0.mk ((by rw [hg]; exact Nat.ne_of_lt (blk_lt (g := gb397) (o := .cells #[.bool t386, .slice Ao11 t387.length co11, .slice Ao12 t390.length co12, .slice Ao13 t393.length co13] 41 (0, 0)) (by (with_reducible repeat (first | refine blk_drewN ?_ _ | refine blk_drew ?_ | refine blk_alloc ?_ _)); exact BK397.out)) : gb397 ≠ gb420)); have n16_ := Aside0.mk ((by rw [hg]; exact Nat.ne_of_gt (blk_lt (g := gb397) (o := .cells #[.bool t386, .slice Ao11 t387.length co11, .slice Ao12 t390.length co12, .slice Ao13 t393.length co13] 41 (0, 0)) (by (with_reducible repeat (first | refine blk_drewN ?_ _ | refine blk_drew ?_ | refine blk_alloc ?_ _)); exact BK397.out)) : gb420 ≠ gb397)); have n17_ := Aside0.mk ((by rw [hg]; exact Nat.ne_of_lt (blk_lt (g := gb419) (o := .cells #[.bool false, .slice none 0 0, .slice none 0 0, .slice none 0 0] 41 (0, 0)) (by (with_reducible repeat (first | refine blk_drewN ?_ _ | refine blk_drew ?_ | refine blk_alloc ?_ _)); exact BK419.out)) : gb419 ≠ gb420)); have n18_ := Aside0.mk ((by rw [hg]; exact Nat.ne_of_gt (blk_lt (g := gb419) (o := .cells #[.bool false, .slice none 0 0, .slice none 0 0, .slice none 0 0] 41 (0, 0)) (by (with_reducible repeat (first | refine blk_drewN ?_ _ | refine blk_drew ?_ | refine blk_alloc ?_ _)); exact BK419.out)) : gb420 ≠ gb419)); clear HO389; clear HO392; clear HO395; clear HO402; clear HO405; clear HO408; clear HO412; clear HO415; clear HO418; clear BK397; clear BK419; clear HB; have HO389 := n0_; have HO392 := n1_; have HO395 := n2_; have HO402 := n3_; have HO405 := n4_; have HO408 := n5_; have HO412 := n6_; have HO415 := n7_; have HO418 := n8_; have BK397 := n9_; have BK419 := n10_; have HB := n11_; have BK420 := n12_; have GW420 := n13_; have GE420 := n14_; have NB397_420 := n15_; have NB420_397 := n16_; have NB419_420 := n17_; have NB420_419 := n18_; clear n0_ n1_ n2_ n3_ n4_ n5_ n6_ n7_ n8_ n9_ n10_ n11_ n12_ n13_ n14_ n15_ n16_ n17_ n18_; clear hb hbox hg; have hnb18 := NB419_397.out; have hnc18 := NB397_419.out; have hnb19 := NB419_420.out; have hnc19 := NB420_419.out; have hcz20_0 : w17.cell? ⟨gb419, 0, none⟩ = some (.bool false) := (blk_cell BK419.out 0).trans rfl; have hcz20_1 : w17.cell? ⟨gb419, 1, none⟩ = some (.slice none 0 0) := (blk_cell BK419.out 1).trans rfl; have hcz20_2 : w17.cell? ⟨gb419, 2, none⟩ = some (.slice none 0 0) := (blk_cell BK419.out 2).trans rfl; have hcz20_3 : w17.cell? ⟨gb419, 3, none⟩ = some (.slice none 0 0) := (blk_cell BK419.out 3).trans rfl; have hfz20_0 := blk_frozen BK419.out 0; have hfz20_1 := blk_frozen BK419.out 1; have hfz20_2 := blk_frozen BK419.out 2; have hfz20_3 := blk_frozen BK419.out 3; obtain ⟨Ao21, co21, eo21⟩ := Kd.R_slice HO402.out; subst eo21; obtain ⟨Ao22, co22, eo22⟩ := Kd.R_slice HO405.out; subst eo22; obtain ⟨Ao23, co23, eo23⟩ := Kd.R_slice HO408.out; subst eo23; have hnb24 := NB420_397.out; have hnc24 := NB397_420.out; have hcz25_0 : w17.cell? ⟨gb420, 0, none⟩ = some (.bool false) := (blk_cell BK420.out 0).trans rfl; have hcz25_1 : w17.cell? ⟨gb420, 1, none⟩ = some (.slice none 0 0) := (blk_cell BK420.out 1).trans rfl; have hcz25_2 : w17.cell? ⟨gb420, 2, none⟩ = some (.slice none 0 0) := (blk_cell BK420.out 2).trans rfl; have hcz25_3 : w17.cell? ⟨gb420, 3, none⟩ = some (.slice none 0 0) := (blk_cell BK420.out 3).trans rfl; have hfz25_0 := blk_frozen BK420.out 0; have hfz25_1 := blk_frozen BK420.out 1; have hfz25_2 := blk_frozen BK420.out 2; have hfz25_3 := blk_frozen BK420.out 3; obtain ⟨Ao26, co26, eo26⟩ := Kd.R_slice HO412.out; subst eo26; obtain ⟨Ao27, co27, eo27⟩ := Kd.R_slice HO415.out; subst eo27; obtain ⟨Ao28, co28, eo28⟩ := Kd.R_slice HO418.out; subst eo28))
    (try simp only [Act.put, List.setIfInBounds_toArray, List.set_cons_zero, List.set_cons_succ])
    go_cut [36] (fun v36 wc => ∃ (kq : Nat) (x36_6 : Bool), v36 = .bool x36_6 ∧ Aside0 (laws_FnChildren.j0 kq t396 t398 x36_6 t386 t387 t390 t393 = some r) ∧ Aside0 (kq ≤ k) ∧ Aside0 (Kd.R Kd.string 9 wc w.heap.size (fun k_ => some k_ ≠ ((.slice Ao12 t390.length co12) : Value).ownBlock ∧ some k_ ≠ ((.slice Ao21 t400.length co21) : Value).ownBlock ∧ some k_ ≠ ((.slice Ao22 t403.length co22) : Value).ownBlock ∧ some k_ ≠ ((.slice Ao26 t410.length co26) : Value).ownBlock ∧ some k_ ≠ ((.slice Ao27 t413.length co27) : Value).ownBlock) (.slice Ao11 t387.length co11) t387) ∧ Aside0 (Kd.R Kd.string 9 wc w.heap.size (fun k_ => some k_ ≠ ((.slice Ao11 t387.length co11) : Value).ownBlock ∧ some k_ ≠ ((.slice Ao21 t400.length co21) : Value).ownBlock ∧ some k_ ≠ ((.slice Ao22 t403.length co22) : Value).ownBlock ∧ some k_ ≠ ((.slice Ao26 t410.length co26) : Value).ownBlock ∧ some k_ ≠ ((.slice Ao27 t413.length co27) : Value).ownBlock) (.slice Ao12 t390.length co12) t390) ∧ Aside0 (Kd.R (Kd.int .i64) 3 wc w.heap.size (fun k_ => some k_ ≠ ((.slice Ao23 t406.length co23) : Value).ownBlock ∧ some k_ ≠ ((.slice Ao28 t416.length co28) : Value).ownBlock) (.slice Ao13 t393.length co13) t393) ∧ Aside0 (Kd.R Kd.string 9 wc w.heap.size (fun k_ => some k_ ≠ ((.slice Ao11 t387.length co11) : Value).ownBlock ∧ some k_ ≠ ((.slice Ao12 t390.length co12) : Value).ownBlock ∧ some k_ ≠ ((.slice Ao22 t403.length co22) : Value).ownBlock ∧ some k_ ≠ ((.slice Ao26 t410.length co26) : Value).ownBlock ∧ some k_ ≠ ((.slice Ao27 t413.length co27) : Value).ownBlock) (.slice Ao21 t400.length co21) t400) ∧ Aside0 (Kd.R Kd.string 9 wc w.heap.size (fun k_ => some k_ ≠ ((.slice Ao11 t387.length co11) : Value).ownBlock ∧ some k_ ≠ ((.slice Ao12 t390.length co12) : Value).ownBlock ∧ some k_ ≠ ((.slice Ao21 t400.length co21) : Value).ownBlock ∧ some k_ ≠ ((.slice Ao26 t410.length co26) : Value).ownBlock ∧ some k_ ≠ ((.slice Ao27 t413.length co27) : Value).ownBlock) (.slice Ao22 t403.length co22) t403) ∧ Aside0 (Kd.R (Kd.int .i64) 3 wc w.heap.size (fun k_ => some k_ ≠ ((.slice Ao13 t393.length co13) : Value).ownBlock ∧ some k_ ≠ ((.slice Ao28 t416.length co28) : Value).ownBlock) (.slice Ao23 t406.length co23) t406) ∧ Aside0 (Kd.R Kd.string 9 wc w.heap.size (fun k_ => some k_ ≠ ((.slice Ao11 t387.length co11) : Value).ownBlock ∧ some k_ ≠ ((.slice Ao12 t390.length co12) : Value).ownBlock ∧ some k_ ≠ ((.slice Ao21 t400.length co21) : Value).ownBlock ∧ some k_ ≠ ((.slice Ao22 t403.length co22) : Value).ownBlock ∧ some k_ ≠ ((.slice Ao27 t413.length co27) : Value).ownBlock) (.slice Ao26 t410.length co26) t410) ∧ Aside0 (Kd.R Kd.string 9 wc w.heap.size (fun k_ => some k_ ≠ ((.slice Ao11 t387.length co11) : Value).ownBlock ∧ some k_ ≠ ((.slice Ao12 t390.length co12) : Value).ownBlock ∧ some k_ ≠ ((.slice Ao21 t400.length co21) : Value).ownBlock ∧ some k_ ≠ ((.slice Ao22 t403.length co22) : Value).ownBlock ∧ some k_ ≠ ((.slice Ao26 t410.length co26) : Value).ownBlock) (.slice Ao27 t413.length co27) t413) ∧ Aside0 (Kd.R (Kd.int .i64) 3 wc w.heap.size (fun k_ => some k_ ≠ ((.slice Ao13 t393.length co13) : Value).ownBlock ∧ some k_ ≠ ((.slice Ao23 t406.length co23) : Value).ownBlock) (.slice Ao28 t416.length co28) t416) ∧ Aside0 (wc.heap[gb397]? = some (.cells #[.bool t386, (.slice Ao11 t387.length co11), (.slice Ao12 t390.length co12), (.slice Ao13 t393.length co13)] 41 (0, 0))) ∧ Aside0 (wc.heap[gb419]? = some (.cells #[.bool t399, (.slice Ao21 t400.length co21), (.slice Ao22 t403.length co22), (.slice Ao23 t406.length co23)] 41 (0, 0))) ∧ Aside0 (wc.heap[gb420]? = some (.cells #[.bool t409, (.slice Ao26 t410.length co26), (.slice Ao27 t413.length co27), (.slice Ao28 t416.length co28)] 41 (0, 0))) ∧ Aside0 (Below w.heap.size w wc))
    case first =>
      have H := HC7.out
      clear HC7
      replace H := Option.bind_eq_some_iff.mp H
      obtain ⟨t421, A290, H⟩ := H
      replace H : (if t398 = t421 then ((impl_SameNode.f k t399 t400 t403 t406 t409 t410 t413 t416).bind fun t422 => ((spec_SameNode.f k t399 t400 t403 t406 t409 t410 t413 t416).bind fun t423 => (laws_FnChildren.j0 k t396 t398 (t422 != t423) t386 t387 t390 t393))) else (laws_FnChildren.j0 k t396 t398 true t386 t387 t390 t393)) = some r := H
      have A29 := Aside0.mk A290
      clear A290
      by_cases c30 : t398 = t421
      · rw [if_pos c30] at H
        have c30b0 : (t398 == t421) = true := beq_iff_eq.mpr c30
        have c30b1 : (t398 != t421) = false := bne_eq_false_iff_eq.mpr c30
        clear c30
        (first | rw [c30b0] | (simp only [i64_w, i32_w]; rw [c30b0]) | skip)
        replace H := Option.bind_eq_some_iff.mp H
        obtain ⟨t422, A310, H⟩ := H
        replace H : ((spec_SameNode.f k t399 t400 t403 t406 t409 t410 t413 t416).bind fun t423 => (laws_FnChildren.j0 k t396 t398 (t422 != t423) t386 t387 t390 t393)) = some r := H
        have A31 := Aside0.mk A310
        clear A310
        replace H := Option.bind_eq_some_iff.mp H
        obtain ⟨t423, A320, H⟩ := H
        replace H : (laws_FnChildren.j0 k t396 t398 (t422 != t423) t386 t387 t390 t393) = some r := H
        have A32 := Aside0.mk A320
        clear A320
        have H' := Aside0.mk H
        clear H
        try go_wp2
        have n0_ : Aside0 (Kd.R Kd.string 9 ((((((((w17.setCell ⟨gb419, 0, none⟩ (.bool t399)).setCell ⟨gb419, 1, none⟩ (.slice Ao21 t400.length co21)).setCell ⟨gb419, 2, none⟩ (.slice Ao22 t403.length co22)).setCell ⟨gb419, 3, none⟩ (.slice Ao23 t406.length co23)).setCell ⟨gb420, 0, none⟩ (.bool t409)).setCell ⟨gb420, 1, none⟩ (.slice Ao26 t410.length co26)).setCell ⟨gb420, 2, none⟩ (.slice Ao27 t413.length co27)).setCell ⟨gb420, 3, none⟩ (.slice Ao28 t416.length co28)) w.heap.size (fun k_ => some k_ ≠ (.slice Ao12 t390.length co12 : Value).ownBlock ∧ some k_ ≠ (.slice Ao21 t400.length co21 : Value).ownBlock ∧ some k_ ≠ (.slice Ao22 t403.length co22 : Value).ownBlock ∧ some k_ ≠ (.slice Ao26 t410.length co26 : Value).ownBlock ∧ some k_ ≠ (.slice Ao27 t413.length co27 : Value).ownBlock) (.slice Ao11 t387.length co11) t387) := ⟨by (with_reducible repeat (first | apply Kd.R_alloc | apply Kd.R_drewN | apply Kd.R_drew)); exact Kd.R_mono (Kd.R_far (p := ⟨gb420, 3, none⟩) (Kd.R_far (p := ⟨gb420, 2, none⟩) (Kd.R_far (p := ⟨gb420, 1, none⟩) (Kd.R_far (p := ⟨gb420, 0, none⟩) (Kd.R_far (p := ⟨gb419, 3, none⟩) (Kd.R_far (p := ⟨gb419, 2, none⟩) (Kd.R_far (p := ⟨gb419, 1, none⟩) (Kd.R_far (p := ⟨gb419, 0, none⟩) (Kd.R_types (Kd.R_types HO389.out BK419.out (by decide)) BK420.out (by decide)) (fun _ hk => hk.1.2) (.bool t399)) (fun _ hk => hk.1.2) (.slice Ao21 t400.length co21)) (fun _ hk => hk.1.2) (.slice Ao22 t403.length co22)) (fun _ hk => hk.1.2) (.slice Ao23 t406.length co23)) (fun _ hk => hk.2) (.bool t409)) (fun _ hk => hk.2) (.slice Ao26 t410.length co26)) (fun _ hk => hk.2) (.slice Ao27 t413.length co27)) (fun _ hk => hk.2) (.slice Ao28 t416.length co28)) (fun _ hk => ⟨hk.1.1.1.1.1.1, ⟨hk.1.1.1.1.1.2, ⟨hk.1.1.1.1.2, ⟨hk.1.1.1.2, hk.1.1.2⟩⟩⟩⟩)⟩
        have n1_ : Aside0 (Kd.R Kd.string 9 ((((((((w17.setCell ⟨gb419, 0, none⟩ (.bool t399)).setCell ⟨gb419, 1, none⟩ (.slice Ao21 t400.length co21)).setCell ⟨gb419, 2, none⟩ (.slice Ao22 t403.length co22)).setCell ⟨gb419, 3, none⟩ (.slice Ao23 t406.length co23)).setCell ⟨gb420, 0, none⟩ (.bool t409)).setCell ⟨gb420, 1, none⟩ (.slice Ao26 t410.length co26)).setCell ⟨gb420, 2, none⟩ (.slice Ao27 t413.length co27)).setCell ⟨gb420, 3, none⟩ (.slice Ao28 t416.length co28)) w.heap.size (fun k_ => some k_ ≠ (.slice Ao11 t387.length co11 : Value).ownBlock ∧ some k_ ≠ (.slice Ao21 t400.length co21 : Value).ownBlock ∧ some k_ ≠ (.slice Ao22 t403.length co22 : Value).ownBlock ∧ some k_ ≠ (.slice Ao26 t410.length co26 : Value).ownBlock ∧ some k_ ≠ (.slice Ao27 t413.length co27 : Value).ownBlock) (.slice Ao12 t390.length co12) t390) := ⟨by (with_reducible repeat (first | apply Kd.R_alloc | apply Kd.R_drewN | apply Kd.R_drew)); exact Kd.R_mono (Kd.R_far (p := ⟨gb420, 3, none⟩) (Kd.R_far (p := ⟨gb420, 2, none⟩) (Kd.R_far (p := ⟨gb420, 1, none⟩) (Kd.R_far (p := ⟨gb420, 0, none⟩) (Kd.R_far (p := ⟨gb419, 3, none⟩) (Kd.R_far (p := ⟨gb419, 2, none⟩) (Kd.R_far (p := ⟨gb419, 1, none⟩) (Kd.R_far (p := ⟨gb419, 0, none⟩) (Kd.R_types (Kd.R_types HO392.out BK419.out (by decide)) BK420.out (by decide)) (fun _ hk => hk.1.2) (.bool t399)) (fun _ hk => hk.1.2) (.slice Ao21 t400.length co21)) (fun _ hk => hk.1.2) (.slice Ao22 t403.length co22)) (fun _ hk => hk.1.2) (.slice Ao23 t406.length co23)) (fun _ hk => hk.2) (.bool t409)) (fun _ hk => hk.2) (.slice Ao26 t410.length co26)) (fun _ hk => hk.2) (.slice Ao27 t413.length co27)) (fun _ hk => hk.2) (.slice Ao28 t416.length co28)) (fun _ hk => ⟨hk.1.1.1.1.1.1, ⟨hk.1.1.1.1.1.2, ⟨hk.1.1.1.1.2, ⟨hk.1.1.1.2, hk.1.1.2⟩⟩⟩⟩)⟩
        have n2_ : Aside0 (Kd.R (Kd.int .i64) 3 ((((((((w17.setCell ⟨gb419, 0, none⟩ (.bool t399)).setCell ⟨gb419, 1, none⟩ (.slice Ao21 t400.length co21)).setCell ⟨gb419, 2, none⟩ (.slice Ao22 t403.length co22)).setCell ⟨gb419, 3, none⟩ (.slice Ao23 t406.length co23)).setCell ⟨gb420, 0, none⟩ (.bool t409)).setCell ⟨gb420, 1, none⟩ (.slice Ao26 t410.length co26)).setCell ⟨gb420, 2, none⟩ (.slice Ao27 t413.length co27)).setCell ⟨gb420, 3, none⟩ (.slice Ao28 t416.length co28)) w.heap.size (fun k_ => some k_ ≠ (.slice Ao23 t406.length co23 : Value).ownBlock ∧ some k_ ≠ (.slice Ao28 t416.length co28 : Value).ownBlock) (.slice Ao13 t393.length co13) t393) := ⟨by (with_reducible repeat (first | apply Kd.R_alloc | apply Kd.R_drewN | apply Kd.R_drew)); exact Kd.R_mono (Kd.R_far (p := ⟨gb420, 3, none⟩) (Kd.R_far (p := ⟨gb420, 2, none⟩) (Kd.R_far (p := ⟨gb420, 1, none⟩) (Kd.R_far (p := ⟨gb420, 0, none⟩) (Kd.R_far (p := ⟨gb419, 3, none⟩) (Kd.R_far (p := ⟨gb419, 2, none⟩) (Kd.R_far (p := ⟨gb419, 1, none⟩) (Kd.R_far (p := ⟨gb419, 0, none⟩) (Kd.R_types (Kd.R_types HO395.out BK419.out (by decide)) BK420.out (by decide)) (fun _ hk => hk.1.2) (.bool t399)) (fun _ hk => hk.1.2) (.slice Ao21 t400.length co21)) (fun _ hk => hk.1.2) (.slice Ao22 t403.length co22)) (fun _ hk => hk.1.2) (.slice Ao23 t406.length co23)) (fun _ hk => hk.2) (.bool t409)) (fun _ hk => hk.2) (.slice Ao26 t410.length co26)) (fun _ hk => hk.2) (.slice Ao27 t413.length co27)) (fun _ hk => hk.2) (.slice Ao28 t416.length co28)) (fun _ hk => ⟨hk.1.1.1.2, hk.1.1.2⟩)⟩
        have n3_ : Aside0 (Kd.R Kd.string 9 ((((((((w17.setCell ⟨gb419, 0, none⟩ (.bool t399)).setCell ⟨gb419, 1, none⟩ (.slice Ao21 t400.length co21)).setCell ⟨gb419, 2, none⟩ (.slice Ao22 t403.length co22)).setCell ⟨gb419, 3, none⟩ (.slice Ao23 t406.length co23)).setCell ⟨gb420, 0, none⟩ (.bool t409)).setCell ⟨gb420, 1, none⟩ (.slice Ao26 t410.length co26)).setCell ⟨gb420, 2, none⟩ (.slice Ao27 t413.length co27)).setCell ⟨gb420, 3, none⟩ (.slice Ao28 t416.length co28)) w.heap.size (fun k_ => some k_ ≠ (.slice Ao11 t387.length co11 : Value).ownBlock ∧ some k_ ≠ (.slice Ao12 t390.length co12 : Value).ownBlock ∧ some k_ ≠ (.slice Ao22 t403.length co22 : Value).ownBlock ∧ some k_ ≠ (.slice Ao26 t410.length co26 : Value).ownBlock ∧ some k_ ≠ (.slice Ao27 t413.length co27 : Value).ownBlock) (.slice Ao21 t400.length co21) t400) := ⟨by (with_reducible repeat (first | apply Kd.R_alloc | apply Kd.R_drewN | apply Kd.R_drew)); exact Kd.R_mono (Kd.R_far (p := ⟨gb420, 3, none⟩) (Kd.R_far (p := ⟨gb420, 2, none⟩) (Kd.R_far (p := ⟨gb420, 1, none⟩) (Kd.R_far (p := ⟨gb420, 0, none⟩) (Kd.R_far (p := ⟨gb419, 3, none⟩) (Kd.R_far (p := ⟨gb419, 2, none⟩) (Kd.R_far (p := ⟨gb419, 1, none⟩) (Kd.R_far (p := ⟨gb419, 0, none⟩) (Kd.R_types (Kd.R_types HO402.out BK419.out (by decide)) BK420.out (by decide)) (fun _ hk => hk.1.2) (.bool t399)) (fun _ hk => hk.1.2) (.slice Ao21 t400.length co21)) (fun _ hk => hk.1.2) (.slice Ao22 t403.length co22)) (fun _ hk => hk.1.2) (.slice Ao23 t406.length co23)) (fun _ hk => hk.2) (.bool t409)) (fun _ hk => hk.2) (.slice Ao26 t410.length co26)) (fun _ hk => hk.2) (.slice Ao27 t413.length co27)) (fun _ hk => hk.2) (.slice Ao28 t416.length co28)) (fun _ hk => ⟨hk.1.1.1.2, ⟨hk.1.1.2, ⟨hk.1.1.1.1.1, ⟨hk.1.1.1.1.2.1, hk.1.1.1.1.2.2⟩⟩⟩⟩)⟩
        have n4_ : Aside0 (Kd.R Kd.string 9 ((((((((w17.setCell ⟨gb419, 0, none⟩ (.bool t399)).setCell ⟨gb419, 1, none⟩ (.slice Ao21 t400.length co21)).setCell ⟨gb419, 2, none⟩ (.slice Ao22 t403.length co22)).setCell ⟨gb419, 3, none⟩ (.slice Ao23 t406.length co23)).setCell ⟨gb420, 0, none⟩ (.bool t409)).setCell ⟨gb420, 1, none⟩ (.slice Ao26 t410.length co26)).setCell ⟨gb420, 2, none⟩ (.slice Ao27 t413.length co27)).setCell ⟨gb420, 3, none⟩ (.slice Ao28 t416.length co28)) w.heap.size (fun k_ => some k_ ≠ (.slice Ao11 t387.length co11 : Value).ownBlock ∧ some k_ ≠ (.slice Ao12 t390.length co12 : Value).ownBlock ∧ some k_ ≠ (.slice Ao21 t400.length co21 : Value).ownBlock ∧ some k_ ≠ (.slice Ao26 t410.length co26 : Value).ownBlock ∧ some k_ ≠ (.slice Ao27 t413.length co27 : Value).ownBlock) (.slice Ao22 t403.length co22) t403) := ⟨by (with_reducible repeat (first | apply Kd.R_alloc | apply Kd.R_drewN | apply Kd.R_drew)); exact Kd.R_mono (Kd.R_far (p := ⟨gb420, 3, none⟩) (Kd.R_far (p := ⟨gb420, 2, none⟩) (Kd.R_far (p := ⟨gb420, 1, none⟩) (Kd.R_far (p := ⟨gb420, 0, none⟩) (Kd.R_far (p := ⟨gb419, 3, none⟩) (Kd.R_far (p := ⟨gb419, 2, none⟩) (Kd.R_far (p := ⟨gb419, 1, none⟩) (Kd.R_far (p := ⟨gb419, 0, none⟩) (Kd.R_types (Kd.R_types HO405.out BK419.out (by decide)) BK420.out (by decide)) (fun _ hk => hk.1.2) (.bool t399)) (fun _ hk => hk.1.2) (.slice Ao21 t400.length co21)) (fun _ hk => hk.1.2) (.slice Ao22 t403.length co22)) (fun _ hk => hk.1.2) (.slice Ao23 t406.length co23)) (fun _ hk => hk.2) (.bool t409)) (fun _ hk => hk.2) (.slice Ao26 t410.length co26)) (fun _ hk => hk.2) (.slice Ao27 t413.length co27)) (fun _ hk => hk.2) (.slice Ao28 t416.length co28)) (fun _ hk => ⟨hk.1.1.1.2, ⟨hk.1.1.2, ⟨hk.1.1.1.1.1, ⟨hk.1.1.1.1.2.1, hk.1.1.1.1.2.2⟩⟩⟩⟩)⟩
        have n5_ : Aside0 (Kd.R (Kd.int .i64) 3 ((((((((w17.setCell ⟨gb419, 0, none⟩ (.bool t399)).setCell ⟨gb419, 1, none⟩ (.slice Ao21 t400.length co21)).setCell ⟨gb419, 2, none⟩ (.slice Ao22 t403.length co22)).setCell ⟨gb419, 3, none⟩ (.slice Ao23 t406.length co23)).setCell ⟨gb420, 0, none⟩ (.bool t409)).setCell ⟨gb420, 1, none⟩ (.slice Ao26 t410.length co26)).setCell ⟨gb420, 2, none⟩ (.slice Ao27 t413.length co27)).setCell ⟨gb420, 3, none⟩ (.slice Ao28 t416.length co28)) w.heap.size (fun k_ => some k_ ≠ (.slice Ao13 t393.length co13 : Value).ownBlock ∧ some k_ ≠ (.slice Ao28 t416.length co28 : Value).ownBlock) (.slice Ao23 t406.length co23) t406) := ⟨by (with_reducible repeat (first | apply Kd.R_alloc | apply Kd.R_drewN | apply Kd.R_drew)); exact Kd.R_mono (Kd.R_far (p := ⟨gb420, 3, none⟩) (Kd.R_far (p := ⟨gb420, 2, none⟩) (Kd.R_far (p := ⟨gb420, 1, none⟩) (Kd.R_far (p := ⟨gb420, 0, none⟩) (Kd.R_far (p := ⟨gb419, 3, none⟩) (Kd.R_far (p := ⟨gb419, 2, none⟩) (Kd.R_far (p := ⟨gb419, 1, none⟩) (Kd.R_far (p := ⟨gb419, 0, none⟩) (Kd.R_types (Kd.R_types HO408.out BK419.out (by decide)) BK420.out (by decide)) (fun _ hk => hk.1.2) (.bool t399)) (fun _ hk => hk.1.2) (.slice Ao21 t400.length co21)) (fun _ hk => hk.1.2) (.slice Ao22 t403.length co22)) (fun _ hk => hk.1.2) (.slice Ao23 t406.length co23)) (fun _ hk => hk.2) (.bool t409)) (fun _ hk => hk.2) (.slice Ao26 t410.length co26)) (fun _ hk => hk.2) (.slice Ao27 t413.length co27)) (fun _ hk => hk.2) (.slice Ao28 t416.length co28)) (fun _ hk => ⟨hk.1.1.2, hk.1.1.1⟩)⟩
        have n6_ : Aside0 (Kd.R Kd.string 9 ((((((((w17.setCell ⟨gb419, 0, none⟩ (.bool t399)).setCell ⟨gb419, 1, none⟩ (.slice Ao21 t400.length co21)).setCell ⟨gb419, 2, none⟩ (.slice Ao22 t403.length co22)).setCell ⟨gb419, 3, none⟩ (.slice Ao23 t406.length co23)).setCell ⟨gb420, 0, none⟩ (.bool t409)).setCell ⟨gb420, 1, none⟩ (.slice Ao26 t410.length co26)).setCell ⟨gb420, 2, none⟩ (.slice Ao27 t413.length co27)).setCell ⟨gb420, 3, none⟩ (.slice Ao28 t416.length co28)) w.heap.size (fun k_ => some k_ ≠ (.slice Ao11 t387.length co11 : Value).ownBlock ∧ some k_ ≠ (.slice Ao12 t390.length co12 : Value).ownBlock ∧ some k_ ≠ (.slice Ao21 t400.length co21 : Value).ownBlock ∧ some k_ ≠ (.slice Ao22 t403.length co22 : Value).ownBlock ∧ some k_ ≠ (.slice Ao27 t413.length co27 : Value).ownBlock) (.slice Ao26 t410.length co26) t410) := ⟨by (with_reducible repeat (first | apply Kd.R_alloc | apply Kd.R_drewN | apply Kd.R_drew)); exact Kd.R_mono (Kd.R_far (p := ⟨gb420, 3, none⟩) (Kd.R_far (p := ⟨gb420, 2, none⟩) (Kd.R_far (p := ⟨gb420, 1, none⟩) (Kd.R_far (p := ⟨gb420, 0, none⟩) (Kd.R_far (p := ⟨gb419, 3, none⟩) (Kd.R_far (p := ⟨gb419, 2, none⟩) (Kd.R_far (p := ⟨gb419, 1, none⟩) (Kd.R_far (p := ⟨gb419, 0, none⟩) (Kd.R_types (Kd.R_types HO412.out BK419.out (by decide)) BK420.out (by decide)) (fun _ hk => hk.1.2) (.bool t399)) (fun _ hk => hk.1.2) (.slice Ao21 t400.length co21)) (fun _ hk => hk.1.2) (.slice Ao22 t403.length co22)) (fun _ hk => hk.1.2) (.slice Ao23 t406.length co23)) (fun _ hk => hk.2) (.bool t409)) (fun _ hk => hk.2) (.slice Ao26 t410.length co26)) (fun _ hk => hk.2) (.slice Ao27 t413.length co27)) (fun _ hk => hk.2) (.slice Ao28 t416.length co28)) (fun _ hk => ⟨hk.1.1.1.2, ⟨hk.1.1.2, ⟨hk.1.1.1.1.1, ⟨hk.1.1.1.1.2.1, hk.1.1.1.1.2.2⟩⟩⟩⟩)⟩
        have n7_ : Aside0 (Kd.R Kd.string 9 ((((((((w17.setCell ⟨gb419, 0, none⟩ (.bool t399)).setCell ⟨gb419, 1, none⟩ (.slice Ao21 t400.length co21)).setCell ⟨gb419, 2, none⟩ (.slice Ao22 t403.length co22)).setCell ⟨gb419, 3, none⟩ (.slice Ao23 t406.length co23)).setCell ⟨gb420, 0, none⟩ (.bool t409)).setCell ⟨gb420, 1, none⟩ (.slice Ao26 t410.length co26)).setCell ⟨gb420, 2, none⟩ (.slice Ao27 t413.length co27)).setCell ⟨gb420, 3, none⟩ (.slice Ao28 t416.length co28)) w.heap.size (fun k_ => some k_ ≠ (.slice Ao11 t387.length co11 : Value).ownBlock ∧ some k_ ≠ (.slice Ao12 t390.length co12 : Value).ownBlock ∧ some k_ ≠ (.slice Ao21 t400.length co21 : Value).ownBlock ∧ some k_ ≠ (.slice Ao22 t403.length co22 : Value).ownBlock ∧ some k_ ≠ (.slice Ao26 t410.length co26 : Value).ownBlock) (.slice Ao27 t413.length co27) t413) := ⟨by (with_reducible repeat (first | apply Kd.R_alloc | apply Kd.R_drewN | apply Kd.R_drew)); exact Kd.R_mono (Kd.R_far (p := ⟨gb420, 3, none⟩) (Kd.R_far (p := ⟨gb420, 2, none⟩) (Kd.R_far (p := ⟨gb420, 1, none⟩) (Kd.R_far (p := ⟨gb420, 0, none⟩) (Kd.R_far (p := ⟨gb419, 3, none⟩) (Kd.R_far (p := ⟨gb419, 2, none⟩) (Kd.R_far (p := ⟨gb419, 1, none⟩) (Kd.R_far (p := ⟨gb419, 0, none⟩) (Kd.R_types (Kd.R_types HO415.out BK419.out (by decide)) BK420.out (by decide)) (fun _ hk => hk.1.2) (.bool t399)) (fun _ hk => hk.1.2) (.slice Ao21 t400.length co21)) (fun _ hk => hk.1.2) (.slice Ao22 t403.length co22)) (fun _ hk => hk.1.2) (.slice Ao23 t406.length co23)) (fun _ hk => hk.2) (.bool t409)) (fun _ hk => hk.2) (.slice Ao26 t410.length co26)) (fun _ hk => hk.2) (.slice Ao27 t413.length co27)) (fun _ hk => hk.2) (.slice Ao28 t416.length co28)) (fun _ hk => ⟨hk.1.1.1.2, ⟨hk.1.1.2, ⟨hk.1.1.1.1.1, ⟨hk.1.1.1.1.2.1, hk.1.1.1.1.2.2⟩⟩⟩⟩)⟩
        have n8_ : Aside0 (Kd.R (Kd.int .i64) 3 ((((((((w17.setCell ⟨gb419, 0, none⟩ (.bool t399)).setCell ⟨gb419, 1, none⟩ (.slice Ao21 t400.length co21)).setCell ⟨gb419, 2, none⟩ (.slice Ao22 t403.length co22)).setCell ⟨gb419, 3, none⟩ (.slice Ao23 t406.length co23)).setCell ⟨gb420, 0, none⟩ (.bool t409)).setCell ⟨gb420, 1, none⟩ (.slice Ao26 t410.length co26)).setCell ⟨gb420, 2, none⟩ (.slice Ao27 t413.length co27)).setCell ⟨gb420, 3, none⟩ (.slice Ao28 t416.length co28)) w.heap.size (fun k_ => some k_ ≠ (.slice Ao13 t393.length co13 : Value).ownBlock ∧ some k_ ≠ (.slice Ao23 t406.length co23 : Value).ownBlock) (.slice Ao28 t416.length co28) t416) := ⟨by (with_reducible repeat (first | apply Kd.R_alloc | apply Kd.R_drewN | apply Kd.R_drew)); exact Kd.R_mono (Kd.R_far (p := ⟨gb420, 3, none⟩) (Kd.R_far (p := ⟨gb420, 2, none⟩) (Kd.R_far (p := ⟨gb420, 1, none⟩) (Kd.R_far (p := ⟨gb420, 0, none⟩) (Kd.R_far (p := ⟨gb419, 3, none⟩) (Kd.R_far (p := ⟨gb419, 2, none⟩) (Kd.R_far (p := ⟨gb419, 1, none⟩) (Kd.R_far (p := ⟨gb419, 0, none⟩) (Kd.R_types (Kd.R_types HO418.out BK419.out (by decide)) BK420.out (by decide)) (fun _ hk => hk.1.2) (.bool t399)) (fun _ hk => hk.1.2) (.slice Ao21 t400.length co21)) (fun _ hk => hk.1.2) (.slice Ao22 t403.length co22)) (fun _ hk => hk.1.2) (.slice Ao23 t406.length co23)) (fun _ hk => hk.2) (.bool t409)) (fun _ hk => hk.2) (.slice Ao26 t410.length co26)) (fun _ hk => hk.2) (.slice Ao27 t413.length co27)) (fun _ hk => hk.2) (.slice Ao28 t416.length co28)) (fun _ hk => ⟨hk.1.1.2, hk.1.1.1⟩)⟩
        have n9_ : Aside0 (((((((((w17.setCell ⟨gb419, 0, none⟩ (.bool t399)).setCell ⟨gb419, 1, none⟩ (.slice Ao21 t400.length co21)).setCell ⟨gb419, 2, none⟩ (.slice Ao22 t403.length co22)).setCell ⟨gb419, 3, none⟩ (.slice Ao23 t406.length co23)).setCell ⟨gb420, 0, none⟩ (.bool t409)).setCell ⟨gb420, 1, none⟩ (.slice Ao26 t410.length co26)).setCell ⟨gb420, 2, none⟩ (.slice Ao27 t413.length co27)).setCell ⟨gb420, 3, none⟩ (.slice Ao28 t416.length co28)).heap[gb397]? = some (.cells #[.bool t386, .slice Ao11 t387.length co11, .slice Ao12 t390.length co12, .slice Ao13 t393.length co13] 41 (0, 0))) := ⟨by (with_reducible repeat (first | refine blk_drewN ?_ _ | refine blk_drew ?_ | refine blk_alloc ?_ _)); refine blk_far ?_ NB397_420.out _; (with_reducible repeat (first | refine blk_drewN ?_ _ | refine blk_drew ?_ | refine blk_alloc ?_ _)); refine blk_far ?_ NB397_420.out _; (with_reducible repeat (first | refine blk_drewN ?_ _ | refine blk_drew ?_ | refine blk_alloc ?_ _)); refine blk_far ?_ NB397_420.out _; (with_reducible repeat (first | refine blk_drewN ?_ _ | refine blk_drew ?_ | refine blk_alloc ?_ _)); refine blk_far ?_ NB397_420.out _; (with_reducible repeat (first | refine blk_drewN ?_ _ | refine blk_drew ?_ | refine blk_alloc ?_ _)); refine blk_far ?_ NB397_419.out _; (with_reducible repeat (first | refine blk_drewN ?_ _ | refine blk_drew ?_ | refine blk_alloc ?_ _)); refine blk_far ?_ NB397_419.out _; (with_reducible repeat (first | refine blk_drewN ?_ _ | refine blk_drew ?_ | refine blk_alloc ?_ _)); refine blk_far ?_ NB397_419.out _; (with_reducible repeat (first | refine blk_drewN ?_ _ | refine blk_drew ?_ | refine blk_alloc ?_ _)); refine blk_far ?_ NB397_419.out _; (with_reducible repeat (first | refine blk_drewN ?_ _ | refine blk_drew ?_ | refine blk_alloc ?_ _)); exact BK397.out⟩
        have n10_ : Aside0 (((((((((w17.setCell ⟨gb419, 0, none⟩ (.bool t399)).setCell ⟨gb419, 1, none⟩ (.slice Ao21 t400.length co21)).setCell ⟨gb419, 2, none⟩ (.slice Ao22 t403.length co22)).setCell ⟨gb419, 3, none⟩ (.slice Ao23 t406.length co23)).setCell ⟨gb420, 0, none⟩ (.bool t409)).setCell ⟨gb420, 1, none⟩ (.slice Ao26 t410.length co26)).setCell ⟨gb420, 2, none⟩ (.slice Ao27 t413.length co27)).setCell ⟨gb420, 3, none⟩ (.slice Ao28 t416.length co28)).heap[gb419]? = some (.cells #[.bool t399, .slice Ao21 t400.length co21, .slice Ao22 t403.length co22, .slice Ao23 t406.length co23] 41 (0, 0))) := ⟨by (with_reducible repeat (first | refine blk_drewN ?_ _ | refine blk_drew ?_ | refine blk_alloc ?_ _)); refine blk_far ?_ NB419_420.out _; (with_reducible repeat (first | refine blk_drewN ?_ _ | refine blk_drew ?_ | refine blk_alloc ?_ _)); refine blk_far ?_ NB419_420.out _; (with_reducible repeat (first | refine blk_drewN ?_ _ | refine blk_drew ?_ | refine blk_alloc ?_ _)); refine blk_far ?_ NB419_420.out _; (with_reducible repeat (first | refine blk_drewN ?_ _ | refine blk_drew ?_ | refine blk_alloc ?_ _)); refine blk_far ?_ NB419_420.out _; (with_reducible repeat (first | refine blk_drewN ?_ _ | refine blk_drew ?_ | refine blk_alloc ?_ _)); refine blk_put (cs := #[.bool t399, .slice Ao21 t400.length co21, .slice Ao22 t403.length co22, .slice none 0 0]) ?_ 3 _ rfl; (with_reducible repeat (first | refine blk_drewN ?_ _ | refine blk_drew ?_ | refine blk_alloc ?_ _)); refine blk_put (cs := #[.bool t399, .slice Ao21 t400.length co21, .slice none 0 0, .slice none 0 0]) ?_ 2 _ rfl; (with_reducible repeat (first | refine blk_drewN ?_ _ | refine blk_drew ?_ | refine blk_alloc ?_ _)); refine blk_put (cs := #[.bool t399, .slice none 0 0, .slice none 0 0, .slice none 0 0]) ?_ 1 _ rfl; (with_reducible repeat (first | refine blk_drewN ?_ _ | refine blk_drew ?_ | refine blk_alloc ?_ _)); refine blk_put (cs := #[.bool false, .slice none 0 0, .slice none 0 0, .slice none 0 0]) ?_ 0 _ rfl; (with_reducible repeat (first | refine blk_drewN ?_ _ | refine blk_drew ?_ | refine blk_alloc ?_ _)); exact BK419.out⟩
        have n11_ : Aside0 (((((((((w17.setCell ⟨gb419, 0, none⟩ (.bool t399)).setCell ⟨gb419, 1, none⟩ (.slice Ao21 t400.length co21)).setCell ⟨gb419, 2, none⟩ (.slice Ao22 t403.length co22)).setCell ⟨gb419, 3, none⟩ (.slice Ao23 t406.length co23)).setCell ⟨gb420, 0, none⟩ (.bool t409)).setCell ⟨gb420, 1, none⟩ (.slice Ao26 t410.length co26)).setCell ⟨gb420, 2, none⟩ (.slice Ao27 t413.length co27)).setCell ⟨gb420, 3, none⟩ (.slice Ao28 t416.length co28)).heap[gb420]? = some (.cells #[.bool t409, .slice Ao26 t410.length co26, .slice Ao27 t413.length co27, .slice Ao28 t416.length co28] 41 (0, 0))) := ⟨by (with_reducible repeat (first | refine blk_drewN ?_ _ | refine blk_drew ?_ | refine blk_alloc ?_ _)); refine blk_put (cs := #[.bool t409, .slice Ao26 t410.length co26, .slice Ao27 t413.length co27, .slice none 0 0]) ?_ 3 _ rfl; (with_reducible repeat (first | refine blk_drewN ?_ _ | refine blk_drew ?_ | refine blk_alloc ?_ _)); refine blk_put (cs := #[.bool t409, .slice Ao26 t410.length co26, .slice none 0 0, .slice none 0 0]) ?_ 2 _ rfl; (with_reducible repeat (first | refine blk_drewN ?_ _ | refine blk_drew ?_ | refine blk_alloc ?_ _)); refine blk_put (cs := #[.bool t409, .slice none 0 0, .slice none 0 0, .slice none 0 0]) ?_ 1 _ rfl; (with_reducible repeat (first | refine blk_drewN ?_ _ | refine blk_drew ?_ | refine blk_alloc ?_ _)); refine blk_put (cs := #[.bool false, .slice none 0 0, .slice none 0 0, .slice none 0 0]) ?_ 0 _ rfl; (with_reducible repeat (first | refine blk_drewN ?_ _ | refine blk_drew ?_ | refine blk_alloc ?_ _)); refine blk_far ?_ NB420_419.out _; (with_reducible repeat (first | refine blk_drewN ?_ _ | refine blk_drew ?_ | refine blk_alloc ?_ _)); refine blk_far ?_ NB420_419.out _; (with_reducible repeat (first | refine blk_drewN ?_ _ | refine blk_drew ?_ | refine blk_alloc ?_ _)); refine blk_far ?_ NB420_419.out _; (with_reducible repeat (first | refine blk_drewN ?_ _ | refine blk_drew ?_ | refine blk_alloc ?_ _)); refine blk_far ?_ NB420_419.out _; (with_reducible repeat (first | refine blk_drewN ?_ _ | refine blk_drew ?_ | refine blk_alloc ?_ _)); exact BK420.out⟩
        have n12_ : Aside0 (Below w.heap.size w ((((((((w17.setCell ⟨gb419, 0, none⟩ (.bool t399)).setCell ⟨gb419, 1, none⟩ (.slice Ao21 t400.length co21)).setCell ⟨gb419, 2, none⟩ (.slice Ao22 t403.length co22)).setCell ⟨gb419, 3, none⟩ (.slice Ao23 t406.length co23)).setCell ⟨gb420, 0, none⟩ (.bool t409)).setCell ⟨gb420, 1, none⟩ (.slice Ao26 t410.length co26)).setCell ⟨gb420, 2, none⟩ (.slice Ao27 t413.length co27)).setCell ⟨gb420, 3, none⟩ (.slice Ao28 t416.length co28))) := ⟨by repeat (first | (with_reducible first | exact HB.out | apply below_alloc | apply pw_below_drewN | apply below_drew1 | refine below_set ?_ GE397.out | refine below_set ?_ GE419.out | refine below_set ?_ GE420.out) | exact HB.out)⟩
        (try clear HO389)
        (try clear HO392)
        (try clear HO395)
        (try clear HO402)
        (try clear HO405)
        (try clear HO408)
        (try clear HO412)
        (try clear HO415)
        (try clear HO418)
        (try clear BK397)
        (try clear BK419)
        (try clear BK420)
        (try clear HB)
        generalize ((((((((w17.setCell ⟨gb419, 0, none⟩ (.bool t399)).setCell ⟨gb419, 1, none⟩ (.slice Ao21 t400.length co21)).setCell ⟨gb419, 2, none⟩ (.slice Ao22 t403.length co22)).setCell ⟨gb419, 3, none⟩ (.slice Ao23 t406.length co23)).setCell ⟨gb420, 0, none⟩ (.bool t409)).setCell ⟨gb420, 1, none⟩ (.slice Ao26 t410.length co26)).setCell ⟨gb420, 2, none⟩ (.slice Ao27 t413.length co27)).setCell ⟨gb420, 3, none⟩ (.slice Ao28 t416.length co28)) = w33 at n0_ n1_ n2_ n3_ n4_ n5_ n6_ n7_ n8_ n9_ n10_ n11_ n12_ ⊢
        have HO389 := n0_
        have HO392 := n1_
        have HO395 := n2_
        have HO402 := n3_
        have HO405 := n4_
        have HO408 := n5_
        have HO412 := n6_
        have HO415 := n7_
        have HO418 := n8_
        have BK397 := n9_
        have BK419 := n10_
        have BK420 := n11_
        have HB := n12_
        clear n0_ n1_ n2_ n3_ n4_ n5_ n6_ n7_ n8_ n9_ n10_ n11_ n12_
        have n0_ := Aside0.mk (Kd.R_drew HO389.out)
        have n1_ := Aside0.mk (Kd.R_drew HO392.out)
        have n2_ := Aside0.mk (Kd.R_drew HO395.out)
        have n3_ := Aside0.mk (Kd.R_drew HO402.out)
        have n4_ := Aside0.mk (Kd.R_drew HO405.out)
        have n5_ := Aside0.mk (Kd.R_drew HO408.out)
        have n6_ := Aside0.mk (Kd.R_drew HO412.out)
        have n7_ := Aside0.mk (Kd.R_drew HO415.out)
        have n8_ := Aside0.mk (Kd.R_drew HO418.out)
        have n9_ := Aside0.mk (blk_drew BK397.out)
        have n10_ := Aside0.mk (blk_drew BK419.out)
        have n11_ := Aside0.mk (blk_drew BK420.out)
        have n12_ := Aside0.mk (below_drew1 HB.out)
        clear HO389
        clear HO392
        clear HO395
        clear HO402
        clear HO405
        clear HO408
        clear HO412
        clear HO415
        clear HO418
        clear BK397
        clear BK419
        clear BK420
        clear HB
        have HO389 := n0_
        have HO392 := n1_
        have HO395 := n2_
        have HO402 := n3_
        have HO405 := n4_
        have HO408 := n5_
        have HO412 := n6_
        have HO415 := n7_
        have HO418 := n8_
        have BK397 := n9_
        have BK419 := n10_
        have BK420 := n11_
        have HB := n12_
        clear n0_ n1_ n2_ n3_ n4_ n5_ n6_ n7_ n8_ n9_ n10_ n11_ n12_
        refine start_ (n := 14) (S := fun w' => w'.cell? ⟨gb397, 0, none⟩ = some (.bool t386) ∧ w'.cell? ⟨gb397, 1, none⟩ = some (.slice Ao11 t387.length co11) ∧ w'.cell? ⟨gb397, 2, none⟩ = some (.slice Ao12 t390.length co12) ∧ w'.cell? ⟨gb397, 3, none⟩ = some (.slice Ao13 t393.length co13) ∧ w'.cell? ⟨gb419, 0, none⟩ = some (.bool t399) ∧ w'.cell? ⟨gb419, 1, none⟩ = some (.slice Ao21 t400.length co21) ∧ w'.cell? ⟨gb419, 2, none⟩ = some (.slice Ao22 t403.length co22) ∧ w'.cell? ⟨gb419, 3, none⟩ = some (.slice Ao23 t406.length co23) ∧ w'.cell? ⟨gb420, 0, none⟩ = some (.bool t409) ∧ w'.cell? ⟨gb420, 1, none⟩ = some (.slice Ao26 t410.length co26) ∧ w'.cell? ⟨gb420, 2, none⟩ = some (.slice Ao27 t413.length co27) ∧ w'.cell? ⟨gb420, 3, none⟩ = some (.slice Ao28 t416.length co28)) (ds := []) #[false, false, false, false, false, false, false, false, false, false, false, false, false, false] (by kernel_rfl) rfl rfl ⟨(blk_cell BK397.out 0).trans rfl, (blk_cell BK397.out 1).trans rfl, (blk_cell BK397.out 2).trans rfl, (blk_cell BK397.out 3).trans rfl, (blk_cell BK419.out 0).trans rfl, (blk_cell BK419.out 1).trans rfl, (blk_cell BK419.out 2).trans rfl, (blk_cell BK419.out 3).trans rfl, (blk_cell BK420.out 0).trans rfl, (blk_cell BK420.out 1).trans rfl, (blk_cell BK420.out 2).trans rfl, (blk_cell BK420.out 3).trans rfl⟩ (fun hHeld => ?_); refine with_tabW laws_FnChildren.tab6 laws_FnChildren.bits6 (fun HT_ HW_ => ?_)
        generalize w33.drew = w34 at HO389 HO392 HO395 HO402 HO405 HO408 HO412 HO415 HO418 BK397 BK419 BK420 HB hHeld ⊢
        refine pure_ (i := 0) (N := some 23) (v := ?_) (a' := ?_) #[true, false, false, false, false, false, false, false, false, false, false, false, false, false] rfl rfl (any_of HT_.out (by kernel_rfl)) (fun _ _ _ h => h) (Or.inl ⟨by rfl, ?_⟩) ?_ ?_
        rotate_left
        · intro w'
          go_simp
          with_reducible rfl
        rotate_left
        · simp only [Act.put, List.setIfInBounds_toArray, List.set_cons_zero, List.set_cons_succ, i64_w, i32_w]
          rfl
        refine pure_ (i := 2) (N := some 25) (v := ?_) (a' := ?_) #[true, false, true, false, false, false, false, false, false, false, false, false, false, false] rfl rfl (any_of HT_.out (by kernel_rfl)) (fun _ _ _ h => h) (Or.inl ⟨by rfl, ?_⟩) ?_ ?_
        rotate_left
        · intro w'
          go_simp
          with_reducible rfl
        rotate_left
        · simp only [Act.put, List.setIfInBounds_toArray, List.set_cons_zero, List.set_cons_succ, i64_w, i32_w]
          rfl
        refine take_ (i := 1) (N := some 24) (v := ?_) (a' := ?_) #[true, true, true, false, false, false, false, false, false, false, false, false, false, false] rfl rfl (take_ofW HT_.out HW_.out (by kernel_rfl)) (fun _ _ _ h => h) (Or.inl ⟨by rfl, ?_⟩) hHeld ?_ ?_
        rotate_left
        · rintro w' ⟨s0, s1, s2, s3, s4, s5, s6, s7, s8, s9, s10, s11⟩
          go_simp
          with_reducible rfl
        rotate_left
        · simp only [Act.put, List.setIfInBounds_toArray, List.set_cons_zero, List.set_cons_succ, i64_w, i32_w]
          rfl
        refine one_ (i := 3) (N := some 26) #[true, true, true, true, false, false, false, false, false, false, false, false, false, false] rfl rfl (one_of HT_.out (by kernel_rfl)) (by decide) (fun K hK => ?_)
        refine goes_ Try.func26 (by kernel_rfl) rfl #[.agg #[.bool t386, .slice Ao11 t387.length co11, .slice Ao12 t390.length co12, .slice Ao13 t393.length co13], .string t396] (by rfl) rfl rfl (by (try simp only [List.map_toArray, List.map_cons, List.map_nil]); first | done | rfl | (simp only [List.length_drop, List.length_take]; rfl)) ?_
        with_reducible refine (spec_ChildOf.calls k t386 _ _ t387 _ _ t390 _ _ t393 t396 t421 _ ?side1 ?side2 ?side3 ?side4 ?side5 ?side6 A29.out).mono ?_
        (case side1 => repeat (first | exact (Kd.R_reads' HO389.out).2.2 | (with_reducible refine Kd.C_alloc ?_ _) | (with_reducible refine Kd.C_drewN ?_ _) | (with_reducible refine Kd.C_drew ?_)))
        (case side2 => exact (Kd.R_reads' HO389.out).2.1)
        (case side3 => repeat (first | exact (Kd.R_reads' HO392.out).2.2 | (with_reducible refine Kd.C_alloc ?_ _) | (with_reducible refine Kd.C_drewN ?_ _) | (with_reducible refine Kd.C_drew ?_)))
        (case side4 => exact (Kd.R_reads' HO392.out).2.1)
        (case side5 => repeat (first | exact (Kd.R_reads' HO395.out).2.2 | (with_reducible refine Kd.C_alloc ?_ _) | (with_reducible refine Kd.C_drewN ?_ _) | (with_reducible refine Kd.C_drew ?_)))
        (case side6 => exact (Kd.R_reads' HO395.out).2.1)
        rintro e w35 ⟨rfl, hb⟩
        refine ⟨_, rfl, ?_⟩
        have n0_ := Aside0.mk (Kd.R_below (by (with_reducible repeat (first | apply Kd.R_alloc | apply Kd.R_drewN | apply Kd.R_drew)); exact HO389.out) hb)
        have n1_ := Aside0.mk (Kd.R_below (by (with_reducible repeat (first | apply Kd.R_alloc | apply Kd.R_drewN | apply Kd.R_drew)); exact HO392.out) hb)
        have n2_ := Aside0.mk (Kd.R_below (by (with_reducible repeat (first | apply Kd.R_alloc | apply Kd.R_drewN | apply Kd.R_drew)); exact HO395.out) hb)
        have n3_ := Aside0.mk (Kd.R_below (by (with_reducible repeat (first | apply Kd.R_alloc | apply Kd.R_drewN | apply Kd.R_drew)); exact HO402.out) hb)
        have n4_ := Aside0.mk (Kd.R_below (by (with_reducible repeat (first | apply Kd.R_alloc | apply Kd.R_drewN | apply Kd.R_drew)); exact HO405.out) hb)
        have n5_ := Aside0.mk (Kd.R_below (by (with_reducible repeat (first | apply Kd.R_alloc | apply Kd.R_drewN | apply Kd.R_drew)); exact HO408.out) hb)
        have n6_ := Aside0.mk (Kd.R_below (by (with_reducible repeat (first | apply Kd.R_alloc | apply Kd.R_drewN | apply Kd.R_drew)); exact HO412.out) hb)
        have n7_ := Aside0.mk (Kd.R_below (by (with_reducible repeat (first | apply Kd.R_alloc | apply Kd.R_drewN | apply Kd.R_drew)); exact HO415.out) hb)
        have n8_ := Aside0.mk (Kd.R_below (by (with_reducible repeat (first | apply Kd.R_alloc | apply Kd.R_drewN | apply Kd.R_drew)); exact HO418.out) hb)
        have n9_ := Aside0.mk (blk_below (g := gb397) (o := .cells #[.bool t386, .slice Ao11 t387.length co11, .slice Ao12 t390.length co12, .slice Ao13 t393.length co13] 41 (0, 0)) (by (with_reducible repeat (first | refine blk_drewN ?_ _ | refine blk_drew ?_ | refine blk_alloc ?_ _)); exact BK397.out) hb)
        have n10_ := Aside0.mk (blk_below (g := gb419) (o := .cells #[.bool t399, .slice Ao21 t400.length co21, .slice Ao22 t403.length co22, .slice Ao23 t406.length co23] 41 (0, 0)) (by (with_reducible repeat (first | refine blk_drewN ?_ _ | refine blk_drew ?_ | refine blk_alloc ?_ _)); exact BK419.out) hb)
        have n11_ := Aside0.mk (blk_below (g := gb420) (o := .cells #[.bool t409, .slice Ao26 t410.length co26, .slice Ao27 t413.length co27, .slice Ao28 t416.length co28] 41 (0, 0)) (by (with_reducible repeat (first | refine blk_drewN ?_ _ | refine blk_drew ?_ | refine blk_alloc ?_ _)); exact BK420.out) hb)
        have n12_ := Aside0.mk (below_step (by repeat (first | (with_reducible first | exact HB.out | apply below_alloc | apply pw_below_drewN | apply below_drew1 | refine below_set ?_ GE397.out | refine below_set ?_ GE419.out | refine below_set ?_ GE420.out) | exact HB.out)) hb)
        clear HO389
        clear HO392
        clear HO395
        clear HO402
        clear HO405
        clear HO408
        clear HO412
        clear HO415
        clear HO418
        clear BK397
        clear BK419
        clear BK420
        clear HB
        have HO389 := n0_
        have HO392 := n1_
        have HO395 := n2_
        have HO402 := n3_
        have HO405 := n4_
        have HO408 := n5_
        have HO412 := n6_
        have HO415 := n7_
        have HO418 := n8_
        have BK397 := n9_
        have BK419 := n10_
        have BK420 := n11_
        have HB := n12_
        clear n0_ n1_ n2_ n3_ n4_ n5_ n6_ n7_ n8_ n9_ n10_ n11_ n12_
        (try clear hb)
        (try clear hb2)
        (try clear hk)
        (try clear hi)
        refine hK.out _ _ ⟨(blk_cell BK397.out 0).trans rfl, (blk_cell BK397.out 1).trans rfl, (blk_cell BK397.out 2).trans rfl, (blk_cell BK397.out 3).trans rfl, (blk_cell BK419.out 0).trans rfl, (blk_cell BK419.out 1).trans rfl, (blk_cell BK419.out 2).trans rfl, (blk_cell BK419.out 3).trans rfl, (blk_cell BK420.out 0).trans rfl, (blk_cell BK420.out 1).trans rfl, (blk_cell BK420.out 2).trans rfl, (blk_cell BK420.out 3).trans rfl⟩ (fun hHeld => ?_)
        clear hK K
        refine norm_ (a' := ?_) ?_ ?_
        rotate_left
        · show Act.put _ (some 26) _ = _
          simp only [Act.put, List.setIfInBounds_toArray, List.set_cons_zero, List.set_cons_succ, i64_w, i32_w]
          rfl
        refine pure_ (i := 4) (N := some 27) (v := ?_) (a' := ?_) #[true, true, true, true, true, false, false, false, false, false, false, false, false, false] rfl rfl (any_of HT_.out (by kernel_rfl)) (fun _ _ _ h => h) (Or.inl ⟨by rfl, ?_⟩) ?_ ?_
        rotate_left
        · intro w'
          go_simp
          with_reducible rfl
        rotate_left
        · simp only [Act.put, List.setIfInBounds_toArray, List.set_cons_zero, List.set_cons_succ, i64_w, i32_w]
          rfl
        refine pure_ (i := 5) (N := some 28) (v := ?_) (a' := ?_) #[true, true, true, true, true, true, false, false, false, false, false, false, false, false] rfl rfl (any_of HT_.out (by kernel_rfl)) (fun _ _ _ h => h) (Or.inl ⟨by rfl, ?_⟩) ?_ ?_
        rotate_left
        · intro w'
          go_simp
          with_reducible rfl
        rotate_left
        · simp only [Act.put, List.setIfInBounds_toArray, List.set_cons_zero, List.set_cons_succ, i64_w, i32_w]
          rfl
        refine take_ (i := 6) (N := some 29) (v := ?_) (a' := ?_) #[true, true, true, true, true, true, true, false, false, false, false, false, false, false] rfl rfl (take_ofW HT_.out HW_.out (by kernel_rfl)) (fun _ _ _ h => h) (Or.inl ⟨by rfl, ?_⟩) hHeld ?_ ?_
        rotate_left
        · rintro w' ⟨s0, s1, s2, s3, s4, s5, s6, s7, s8, s9, s10, s11⟩
          go_simp
          with_reducible rfl
        rotate_left
        · simp only [Act.put, List.setIfInBounds_toArray, List.set_cons_zero, List.set_cons_succ, i64_w, i32_w]
          rfl
        refine take_ (i := 7) (N := some 30) (v := ?_) (a' := ?_) #[true, true, true, true, true, true, true, true, false, false, false, false, false, false] rfl rfl (take_ofW HT_.out HW_.out (by kernel_rfl)) (fun _ _ _ h => h) (Or.inl ⟨by rfl, ?_⟩) hHeld ?_ ?_
        rotate_left
        · rintro w' ⟨s0, s1, s2, s3, s4, s5, s6, s7, s8, s9, s10, s11⟩
          go_simp
          with_reducible rfl
        rotate_left
        · simp only [Act.put, List.setIfInBounds_toArray, List.set_cons_zero, List.set_cons_succ, i64_w, i32_w]
          rfl
        refine take_ (i := 9) (N := some 32) (v := ?_) (a' := ?_) #[true, true, true, true, true, true, true, true, false, true, false, false, false, false] rfl rfl (take_ofW HT_.out HW_.out (by kernel_rfl)) (fun _ _ _ h => h) (Or.inl ⟨by rfl, ?_⟩) hHeld ?_ ?_
        rotate_left
        · rintro w' ⟨s0, s1, s2, s3, s4, s5, s6, s7, s8, s9, s10, s11⟩
          go_simp
          with_reducible rfl
        rotate_left
        · simp only [Act.put, List.setIfInBounds_toArray, List.set_cons_zero, List.set_cons_succ, i64_w, i32_w]
          rfl
        refine take_ (i := 10) (N := some 33) (v := ?_) (a' := ?_) #[true, true, true, true, true, true, true, true, false, true, true, false, false, false] rfl rfl (take_ofW HT_.out HW_.out (by kernel_rfl)) (fun _ _ _ h => h) (Or.inl ⟨by rfl, ?_⟩) hHeld ?_ ?_
        rotate_left
        · rintro w' ⟨s0, s1, s2, s3, s4, s5, s6, s7, s8, s9, s10, s11⟩
          go_simp
          with_reducible rfl
        rotate_left
        · simp only [Act.put, List.setIfInBounds_toArray, List.set_cons_zero, List.set_cons_succ, i64_w, i32_w]
          rfl
        refine one_ (i := 8) (N := some 31) #[true, true, true, true, true, true, true, true, true, true, true, false, false, false] rfl rfl (one_of HT_.out (by kernel_rfl)) (by decide) (fun K hK => ?_)
        refine goes_ Try.func41 (by kernel_rfl) rfl #[.agg #[.bool t399, .slice Ao21 t400.length co21, .slice Ao22 t403.length co22, .slice Ao23 t406.length co23], .agg #[.bool t409, .slice Ao26 t410.length co26, .slice Ao27 t413.length co27, .slice Ao28 t416.length co28]] (by rfl) rfl rfl (by (try simp only [List.map_toArray, List.map_cons, List.map_nil]); first | done | rfl | (simp only [List.length_drop, List.length_take]; rfl)) ?_
        with_reducible refine (impl_SameNode.calls k t399 _ _ t400 _ _ t403 _ _ t406 t409 _ _ t410 _ _ t413 _ _ t416 t422 _ ?side1 ?side2 ?side3 ?side4 ?side5 ?side6 ?side7 ?side8 ?side9 ?side10 ?side11 ?side12 A31.out).mono ?_
        (case side1 => repeat (first | exact (Kd.R_reads' HO402.out).2.2 | (with_reducible refine Kd.C_alloc ?_ _) | (with_reducible refine Kd.C_drewN ?_ _) | (with_reducible refine Kd.C_drew ?_)))
        (case side2 => exact (Kd.R_reads' HO402.out).2.1)
        (case side3 => repeat (first | exact (Kd.R_reads' HO405.out).2.2 | (with_reducible refine Kd.C_alloc ?_ _) | (with_reducible refine Kd.C_drewN ?_ _) | (with_reducible refine Kd.C_drew ?_)))
        (case side4 => exact (Kd.R_reads' HO405.out).2.1)
        (case side5 => repeat (first | exact (Kd.R_reads' HO408.out).2.2 | (with_reducible refine Kd.C_alloc ?_ _) | (with_reducible refine Kd.C_drewN ?_ _) | (with_reducible refine Kd.C_drew ?_)))
        (case side6 => exact (Kd.R_reads' HO408.out).2.1)
        (case side7 => repeat (first | exact (Kd.R_reads' HO412.out).2.2 | (with_reducible refine Kd.C_alloc ?_ _) | (with_reducible refine Kd.C_drewN ?_ _) | (with_reducible refine Kd.C_drew ?_)))
        (case side8 => exact (Kd.R_reads' HO412.out).2.1)
        (case side9 => repeat (first | exact (Kd.R_reads' HO415.out).2.2 | (with_reducible refine Kd.C_alloc ?_ _) | (with_reducible refine Kd.C_drewN ?_ _) | (with_reducible refine Kd.C_drew ?_)))
        (case side10 => exact (Kd.R_reads' HO415.out).2.1)
        (case side11 => repeat (first | exact (Kd.R_reads' HO418.out).2.2 | (with_reducible refine Kd.C_alloc ?_ _) | (with_reducible refine Kd.C_drewN ?_ _) | (with_reducible refine Kd.C_drew ?_)))
        (case side12 => exact (Kd.R_reads' HO418.out).2.1)
        rintro e w36 ⟨rfl, hb⟩
        refine ⟨_, rfl, ?_⟩
        have n0_ := Aside0.mk (Kd.R_below (by (with_reducible repeat (first | apply Kd.R_alloc | apply Kd.R_drewN | apply Kd.R_drew)); exact HO389.out) hb)
        have n1_ := Aside0.mk (Kd.R_below (by (with_reducible repeat (first | apply Kd.R_alloc | apply Kd.R_drewN | apply Kd.R_drew)); exact HO392.out) hb)
        have n2_ := Aside0.mk (Kd.R_below (by (with_reducible repeat (first | apply Kd.R_alloc | apply Kd.R_drewN | apply Kd.R_drew)); exact HO395.out) hb)
        have n3_ := Aside0.mk (Kd.R_below (by (with_reducible repeat (first | apply Kd.R_alloc | apply Kd.R_drewN | apply Kd.R_drew)); exact HO402.out) hb)
        have n4_ := Aside0.mk (Kd.R_below (by (with_reducible repeat (first | apply Kd.R_alloc | apply Kd.R_drewN | apply Kd.R_drew)); exact HO405.out) hb)
        have n5_ := Aside0.mk (Kd.R_below (by (with_reducible repeat (first | apply Kd.R_alloc | apply Kd.R_drewN | apply Kd.R_drew)); exact HO408.out) hb)
        have n6_ := Aside0.mk (Kd.R_below (by (with_reducible repeat (first | apply Kd.R_alloc | apply Kd.R_drewN | apply Kd.R_drew)); exact HO412.out) hb)
        have n7_ := Aside0.mk (Kd.R_below (by (with_reducible repeat (first | apply Kd.R_alloc | apply Kd.R_drewN | apply Kd.R_drew)); exact HO415.out) hb)
        have n8_ := Aside0.mk (Kd.R_below (by (with_reducible repeat (first | apply Kd.R_alloc | apply Kd.R_drewN | apply Kd.R_drew)); exact HO418.out) hb)
        have n9_ := Aside0.mk (blk_below (g := gb397) (o := .cells #[.bool t386, .slice Ao11 t387.length co11, .slice Ao12 t390.length co12, .slice Ao13 t393.length co13] 41 (0, 0)) (by (with_reducible repeat (first | refine blk_drewN ?_ _ | refine blk_drew ?_ | refine blk_alloc ?_ _)); exact BK397.out) hb)
        have n10_ := Aside0.mk (blk_below (g := gb419) (o := .cells #[.bool t399, .slice Ao21 t400.length co21, .slice Ao22 t403.length co22, .slice Ao23 t406.length co23] 41 (0, 0)) (by (with_reducible repeat (first | refine blk_drewN ?_ _ | refine blk_drew ?_ | refine blk_alloc ?_ _)); exact BK419.out) hb)
        have n11_ := Aside0.mk (blk_below (g := gb420) (o := .cells #[.bool t409, .slice Ao26 t410.length co26, .slice Ao27 t413.length co27, .slice Ao28 t416.length co28] 41 (0, 0)) (by (with_reducible repeat (first | refine blk_drewN ?_ _ | refine blk_drew ?_ | refine blk_alloc ?_ _)); exact BK420.out) hb)
        have n12_ := Aside0.mk (below_step (by repeat (first | (with_reducible first | exact HB.out | apply below_alloc | apply pw_below_drewN | apply below_drew1 | refine below_set ?_ GE397.out | refine below_set ?_ GE419.out | refine below_set ?_ GE420.out) | exact HB.out)) hb)
        clear HO389
        clear HO392
        clear HO395
        clear HO402
        clear HO405
        clear HO408
        clear HO412
        clear HO415
        clear HO418
        clear BK397
        clear BK419
        clear BK420
        clear HB
        have HO389 := n0_
        have HO392 := n1_
        have HO395 := n2_
        have HO402 := n3_
        have HO405 := n4_
        have HO408 := n5_
        have HO412 := n6_
        have HO415 := n7_
        have HO418 := n8_
        have BK397 := n9_
        have BK419 := n10_
        have BK420 := n11_
        have HB := n12_
        clear n0_ n1_ n2_ n3_ n4_ n5_ n6_ n7_ n8_ n9_ n10_ n11_ n12_
        (try clear hb)
        (try clear hb2)
        (try clear hk)
        (try clear hi)
        refine hK.out _ _ ⟨(blk_cell BK397.out 0).trans rfl, (blk_cell BK397.out 1).trans rfl, (blk_cell BK397.out 2).trans rfl, (blk_cell BK397.out 3).trans rfl, (blk_cell BK419.out 0).trans rfl, (blk_cell BK419.out 1).trans rfl, (blk_cell BK419.out 2).trans rfl, (blk_cell BK419.out 3).trans rfl, (blk_cell BK420.out 0).trans rfl, (blk_cell BK420.out 1).trans rfl, (blk_cell BK420.out 2).trans rfl, (blk_cell BK420.out 3).trans rfl⟩ (fun hHeld => ?_)
        clear hK K
        refine norm_ (a' := ?_) ?_ ?_
        rotate_left
        · show Act.put _ (some 31) _ = _
          simp only [Act.put, List.setIfInBounds_toArray, List.set_cons_zero, List.set_cons_succ, i64_w, i32_w]
          rfl
        refine one_ (i := 11) (N := some 34) #[true, true, true, true, true, true, true, true, true, true, true, true, false, false] rfl rfl (one_of HT_.out (by kernel_rfl)) (by decide) (fun K hK => ?_)
        refine goes_ Try.func40 (by kernel_rfl) rfl #[.agg #[.bool t399, .slice Ao21 t400.length co21, .slice Ao22 t403.length co22, .slice Ao23 t406.length co23], .agg #[.bool t409, .slice Ao26 t410.length co26, .slice Ao27 t413.length co27, .slice Ao28 t416.length co28]] (by rfl) rfl rfl (by (try simp only [List.map_toArray, List.map_cons, List.map_nil]); first | done | rfl | (simp only [List.length_drop, List.length_take]; rfl)) ?_
        with_reducible refine (spec_SameNode.calls k t399 _ _ t400 _ _ t403 _ _ t406 t409 _ _ t410 _ _ t413 _ _ t416 t423 _ ?side1 ?side2 ?side3 ?side4 ?side5 ?side6 ?side7 ?side8 ?side9 ?side10 ?side11 ?side12 A32.out).mono ?_
        (case side1 => repeat (first | exact (Kd.R_reads' HO402.out).2.2 | (with_reducible refine Kd.C_alloc ?_ _) | (with_reducible refine Kd.C_drewN ?_ _) | (with_reducible refine Kd.C_drew ?_)))
        (case side2 => exact (Kd.R_reads' HO402.out).2.1)
        (case side3 => repeat (first | exact (Kd.R_reads' HO405.out).2.2 | (with_reducible refine Kd.C_alloc ?_ _) | (with_reducible refine Kd.C_drewN ?_ _) | (with_reducible refine Kd.C_drew ?_)))
        (case side4 => exact (Kd.R_reads' HO405.out).2.1)
        (case side5 => repeat (first | exact (Kd.R_reads' HO408.out).2.2 | (with_reducible refine Kd.C_alloc ?_ _) | (with_reducible refine Kd.C_drewN ?_ _) | (with_reducible refine Kd.C_drew ?_)))
        (case side6 => exact (Kd.R_reads' HO408.out).2.1)
        (case side7 => repeat (first | exact (Kd.R_reads' HO412.out).2.2 | (with_reducible refine Kd.C_alloc ?_ _) | (with_reducible refine Kd.C_drewN ?_ _) | (with_reducible refine Kd.C_drew ?_)))
        (case side8 => exact (Kd.R_reads' HO412.out).2.1)
        (case side9 => repeat (first | exact (Kd.R_reads' HO415.out).2.2 | (with_reducible refine Kd.C_alloc ?_ _) | (with_reducible refine Kd.C_drewN ?_ _) | (with_reducible refine Kd.C_drew ?_)))
        (case side10 => exact (Kd.R_reads' HO415.out).2.1)
        (case side11 => repeat (first | exact (Kd.R_reads' HO418.out).2.2 | (with_reducible refine Kd.C_alloc ?_ _) | (with_reducible refine Kd.C_drewN ?_ _) | (with_reducible refine Kd.C_drew ?_)))
        (case side12 => exact (Kd.R_reads' HO418.out).2.1)
        rintro e w37 ⟨rfl, hb⟩
        refine ⟨_, rfl, ?_⟩
        have n0_ := Aside0.mk (Kd.R_below (by (with_reducible repeat (first | apply Kd.R_alloc | apply Kd.R_drewN | apply Kd.R_drew)); exact HO389.out) hb)
        have n1_ := Aside0.mk (Kd.R_below (by (with_reducible repeat (first | apply Kd.R_alloc | apply Kd.R_drewN | apply Kd.R_drew)); exact HO392.out) hb)
        have n2_ := Aside0.mk (Kd.R_below (by (with_reducible repeat (first | apply Kd.R_alloc | apply Kd.R_drewN | apply Kd.R_drew)); exact HO395.out) hb)
        have n3_ := Aside0.mk (Kd.R_below (by (with_reducible repeat (first | apply Kd.R_alloc | apply Kd.R_drewN | apply Kd.R_drew)); exact HO402.out) hb)
        have n4_ := Aside0.mk (Kd.R_below (by (with_reducible repeat (first | apply Kd.R_alloc | apply Kd.R_drewN | apply Kd.R_drew)); exact HO405.out) hb)
        have n5_ := Aside0.mk (Kd.R_below (by (with_reducible repeat (first | apply Kd.R_alloc | apply Kd.R_drewN | apply Kd.R_drew)); exact HO408.out) hb)
        have n6_ := Aside0.mk (Kd.R_below (by (with_reducible repeat (first | apply Kd.R_alloc | apply Kd.R_drewN | apply Kd.R_drew)); exact HO412.out) hb)
        have n7_ := Aside0.mk (Kd.R_below (by (with_reducible repeat (first | apply Kd.R_alloc | apply Kd.R_drewN | apply Kd.R_drew)); exact HO415.out) hb)
        have n8_ := Aside0.mk (Kd.R_below (by (with_reducible repeat (first | apply Kd.R_alloc | apply Kd.R_drewN | apply Kd.R_drew)); exact HO418.out) hb)
        have n9_ := Aside0.mk (blk_below (g := gb397) (o := .cells #[.bool t386, .slice Ao11 t387.length co11, .slice Ao12 t390.length co12, .slice Ao13 t393.length co13] 41 (0, 0)) (by (with_reducible repeat (first | refine blk_drewN ?_ _ | refine blk_drew ?_ | refine blk_alloc ?_ _)); exact BK397.out) hb)
        have n10_ := Aside0.mk (blk_below (g := gb419) (o := .cells #[.bool t399, .slice Ao21 t400.length co21, .slice Ao22 t403.length co22, .slice Ao23 t406.length co23] 41 (0, 0)) (by (with_reducible repeat (first | refine blk_drewN ?_ _ | refine blk_drew ?_ | refine blk_alloc ?_ _)); exact BK419.out) hb)
        have n11_ := Aside0.mk (blk_below (g := gb420) (o := .cells #[.bool t409, .slice Ao26 t410.length co26, .slice Ao27 t413.length co27, .slice Ao28 t416.length co28] 41 (0, 0)) (by (with_reducible repeat (first | refine blk_drewN ?_ _ | refine blk_drew ?_ | refine blk_alloc ?_ _)); exact BK420.out) hb)
        have n12_ := Aside0.mk (below_step (by repeat (first | (with_reducible first | exact HB.out | apply below_alloc | apply pw_below_drewN | apply below_drew1 | refine below_set ?_ GE397.out | refine below_set ?_ GE419.out | refine below_set ?_ GE420.out) | exact HB.out)) hb)
        clear HO389
        clear HO392
        clear HO395
        clear HO402
        clear HO405
        clear HO408
        clear HO412
        clear HO415
        clear HO418
        clear BK397
        clear BK419
        clear BK420
        clear HB
        have HO389 := n0_
        have HO392 := n1_
        have HO395 := n2_
        have HO402 := n3_
        have HO405 := n4_
        have HO408 := n5_
        have HO412 := n6_
        have HO415 := n7_
        have HO418 := n8_
        have BK397 := n9_
        have BK419 := n10_
        have BK420 := n11_
        have HB := n12_
        clear n0_ n1_ n2_ n3_ n4_ n5_ n6_ n7_ n8_ n9_ n10_ n11_ n12_
        (try clear hb)
        (try clear hb2)
        (try clear hk)
        (try clear hi)
        refine hK.out _ _ ⟨(blk_cell BK397.out 0).trans rfl, (blk_cell BK397.out 1).trans rfl, (blk_cell BK397.out 2).trans rfl, (blk_cell BK397.out 3).trans rfl, (blk_cell BK419.out 0).trans rfl, (blk_cell BK419.out 1).trans rfl, (blk_cell BK419.out 2).trans rfl, (blk_cell BK419.out 3).trans rfl, (blk_cell BK420.out 0).trans rfl, (blk_cell BK420.out 1).trans rfl, (blk_cell BK420.out 2).trans rfl, (blk_cell BK420.out 3).trans rfl⟩ (fun hHeld => ?_)
        clear hK K
        refine norm_ (a' := ?_) ?_ ?_
        rotate_left
        · show Act.put _ (some 34) _ = _
          simp only [Act.put, List.setIfInBounds_toArray, List.set_cons_zero, List.set_cons_succ, i64_w, i32_w]
          rfl
        refine pure_ (i := 12) (N := some 35) (v := ?_) (a' := ?_) #[true, true, true, true, true, true, true, true, true, true, true, true, true, false] rfl rfl (any_of HT_.out (by kernel_rfl)) (fun _ _ _ h => h) (Or.inl ⟨by rfl, ?_⟩) ?_ ?_
        rotate_left
        · intro w'
          go_simp
          with_reducible rfl
        rotate_left
        · simp only [Act.put, List.setIfInBounds_toArray, List.set_cons_zero, List.set_cons_succ, i64_w, i32_w]
          rfl
        refine pure_ (i := 13) (N := some 36) (v := ?_) (a' := ?_) #[true, true, true, true, true, true, true, true, true, true, true, true, true, true] rfl rfl (any_of HT_.out (by kernel_rfl)) (fun _ _ _ h => h) (Or.inl ⟨by rfl, ?_⟩) ?_ ?_
        rotate_left
        · intro w'
          go_simp
          with_reducible rfl
        rotate_left
        · simp only [Act.put, List.setIfInBounds_toArray, List.set_cons_zero, List.set_cons_succ, i64_w, i32_w]
          rfl
        refine done_ (done_of HT_.out (by kernel_rfl)) ?_
        try go_wp2
        (first | go_meet | (refine Met.intro ?_; go_step; (repeat apply Exists.intro); refine ⟨?rel, ?eq⟩; (case eq => (try simp only [c23b0]); (try simp only [c23b0]); (try simp only [c30b0]); rfl)))
        case rel => exact ⟨_, ((t422 != t423)), (by first | rfl | (simp; done) | (simp [*]; done)), H', ⟨by first | omega | exact Nat.le_refl _⟩, ⟨by (with_reducible repeat (first | apply Kd.R_alloc | apply Kd.R_drewN | apply Kd.R_drew)); exact HO389.out⟩, ⟨by (with_reducible repeat (first | apply Kd.R_alloc | apply Kd.R_drewN | apply Kd.R_drew)); exact HO392.out⟩, ⟨by (with_reducible repeat (first | apply Kd.R_alloc | apply Kd.R_drewN | apply Kd.R_drew)); exact HO395.out⟩, ⟨by (with_reducible repeat (first | apply Kd.R_alloc | apply Kd.R_drewN | apply Kd.R_drew)); exact HO402.out⟩, ⟨by (with_reducible repeat (first | apply Kd.R_alloc | apply Kd.R_drewN | apply Kd.R_drew)); exact HO405.out⟩, ⟨by (with_reducible repeat (first | apply Kd.R_alloc | apply Kd.R_drewN | apply Kd.R_drew)); exact HO408.out⟩, ⟨by (with_reducible repeat (first | apply Kd.R_alloc | apply Kd.R_drewN | apply Kd.R_drew)); exact HO412.out⟩, ⟨by (with_reducible repeat (first | apply Kd.R_alloc | apply Kd.R_drewN | apply Kd.R_drew)); exact HO415.out⟩, ⟨by (with_reducible repeat (first | apply Kd.R_alloc | apply Kd.R_drewN | apply Kd.R_drew)); exact HO418.out⟩, ⟨by (with_reducible repeat (first | refine blk_drewN ?_ _ | refine blk_drew ?_ | refine blk_alloc ?_ _)); exact BK397.out⟩, ⟨by (with_reducible repeat (first | refine blk_drewN ?_ _ | refine blk_drew ?_ | refine blk_alloc ?_ _)); exact BK419.out⟩, ⟨by (with_reducible repeat (first | refine blk_drewN ?_ _ | refine blk_drew ?_ | refine blk_alloc ?_ _)); exact BK420.out⟩, ⟨by repeat (first | (with_reducible first | exact HB.out | apply below_alloc | apply pw_below_drewN | apply below_drew1 | refine below_set ?_ GE397.out | refine below_set ?_ GE419.out | refine below_set ?_ GE420.out) | exact HB.out)⟩⟩
      · rw [if_neg c30] at H
        have c30b0 : (t398 == t421) = false := beq_eq_false_iff_ne.mpr c30
        have c30b1 : (t398 != t421) = true := bne_iff_ne.mpr c30
        (first | rw [c30b0] | (simp only [i64_w, i32_w]; rw [c30b0]) | skip)
        have H' := Aside0.mk H
        clear H
        try go_wp2
        have n0_ : Aside0 (Kd.R Kd.string 9 ((((((((w17.setCell ⟨gb419, 0, none⟩ (.bool t399)).setCell ⟨gb419, 1, none⟩ (.slice Ao21 t400.length co21)).setCell ⟨gb419, 2, none⟩ (.slice Ao22 t403.length co22)).setCell ⟨gb419, 3, none⟩ (.slice Ao23 t406.length co23)).setCell ⟨gb420, 0, none⟩ (.bool t409)).setCell ⟨gb420, 1, none⟩ (.slice Ao26 t410.length co26)).setCell ⟨gb420, 2, none⟩ (.slice Ao27 t413.length co27)).setCell ⟨gb420, 3, none⟩ (.slice Ao28 t416.length co28)) w.heap.size (fun k_ => some k_ ≠ (.slice Ao12 t390.length co12 : Value).ownBlock ∧ some k_ ≠ (.slice Ao21 t400.length co21 : Value).ownBlock ∧ some k_ ≠ (.slice Ao22 t403.length co22 : Value).ownBlock ∧ some k_ ≠ (.slice Ao26 t410.length co26 : Value).ownBlock ∧ some k_ ≠ (.slice Ao27 t413.length co27 : Value).ownBlock) (.slice Ao11 t387.length co11) t387) := ⟨by (with_reducible repeat (first | apply Kd.R_alloc | apply Kd.R_drewN | apply Kd.R_drew)); exact Kd.R_mono (Kd.R_far (p := ⟨gb420, 3, none⟩) (Kd.R_far (p := ⟨gb420, 2, none⟩) (Kd.R_far (p := ⟨gb420, 1, none⟩) (Kd.R_far (p := ⟨gb420, 0, none⟩) (Kd.R_far (p := ⟨gb419, 3, none⟩) (Kd.R_far (p := ⟨gb419, 2, none⟩) (Kd.R_far (p := ⟨gb419, 1, none⟩) (Kd.R_far (p := ⟨gb419, 0, none⟩) (Kd.R_types (Kd.R_types HO389.out BK419.out (by decide)) BK420.out (by decide)) (fun _ hk => hk.1.2) (.bool t399)) (fun _ hk => hk.1.2) (.slice Ao21 t400.length co21)) (fun _ hk => hk.1.2) (.slice Ao22 t403.length co22)) (fun _ hk => hk.1.2) (.slice Ao23 t406.length co23)) (fun _ hk => hk.2) (.bool t409)) (fun _ hk => hk.2) (.slice Ao26 t410.length co26)) (fun _ hk => hk.2) (.slice Ao27 t413.length co27)) (fun _ hk => hk.2) (.slice Ao28 t416.length co28)) (fun _ hk => ⟨hk.1.1.1.1.1.1, ⟨hk.1.1.1.1.1.2, ⟨hk.1.1.1.1.2, ⟨hk.1.1.1.2, hk.1.1.2⟩⟩⟩⟩)⟩
        have n1_ : Aside0 (Kd.R Kd.string 9 ((((((((w17.setCell ⟨gb419, 0, none⟩ (.bool t399)).setCell ⟨gb419, 1, none⟩ (.slice Ao21 t400.length co21)).setCell ⟨gb419, 2, none⟩ (.slice Ao22 t403.length co22)).setCell ⟨gb419, 3, none⟩ (.slice Ao23 t406.length co23)).setCell ⟨gb420, 0, none⟩ (.bool t409)).setCell ⟨gb420, 1, none⟩ (.slice Ao26 t410.length co26)).setCell ⟨gb420, 2, none⟩ (.slice Ao27 t413.length co27)).setCell ⟨gb420, 3, none⟩ (.slice Ao28 t416.length co28)) w.heap.size (fun k_ => some k_ ≠ (.slice Ao11 t387.length co11 : Value).ownBlock ∧ some k_ ≠ (.slice Ao21 t400.length co21 : Value).ownBlock ∧ some k_ ≠ (.slice Ao22 t403.length co22 : Value).ownBlock ∧ some k_ ≠ (.slice Ao26 t410.length co26 : Value).ownBlock ∧ some k_ ≠ (.slice Ao27 t413.length co27 : Value).ownBlock) (.slice Ao12 t390.length co12) t390) := ⟨by (with_reducible repeat (first | apply Kd.R_alloc | apply Kd.R_drewN | apply Kd.R_drew)); exact Kd.R_mono (Kd.R_far (p := ⟨gb420, 3, none⟩) (Kd.R_far (p := ⟨gb420, 2, none⟩) (Kd.R_far (p := ⟨gb420, 1, none⟩) (Kd.R_far (p := ⟨gb420, 0, none⟩) (Kd.R_far (p := ⟨gb419, 3, none⟩) (Kd.R_far (p := ⟨gb419, 2, none⟩) (Kd.R_far (p := ⟨gb419, 1, none⟩) (Kd.R_far (p := ⟨gb419, 0, none⟩) (Kd.R_types (Kd.R_types HO392.out BK419.out (by decide)) BK420.out (by decide)) (fun _ hk => hk.1.2) (.bool t399)) (fun _ hk => hk.1.2) (.slice Ao21 t400.length co21)) (fun _ hk => hk.1.2) (.slice Ao22 t403.length co22)) (fun _ hk => hk.1.2) (.slice Ao23 t406.length co23)) (fun _ hk => hk.2) (.bool t409)) (fun _ hk => hk.2) (.slice Ao26 t410.length co26)) (fun _ hk => hk.2) (.slice Ao27 t413.length co27)) (fun _ hk => hk.2) (.slice Ao28 t416.length co28)) (fun _ hk => ⟨hk.1.1.1.1.1.1, ⟨hk.1.1.1.1.1.2, ⟨hk.1.1.1.1.2, ⟨hk.1.1.1.2, hk.1.1.2⟩⟩⟩⟩)⟩
        have n2_ : Aside0 (Kd.R (Kd.int .i64) 3 ((((((((w17.setCell ⟨gb419, 0, none⟩ (.bool t399)).setCell ⟨gb419, 1, none⟩ (.slice Ao21 t400.length co21)).setCell ⟨gb419, 2, none⟩ (.slice Ao22 t403.length co22)).setCell ⟨gb419, 3, none⟩ (.slice Ao23 t406.length co23)).setCell ⟨gb420, 0, none⟩ (.bool t409)).setCell ⟨gb420, 1, none⟩ (.slice Ao26 t410.length co26)).setCell ⟨gb420, 2, none⟩ (.slice Ao27 t413.length co27)).setCell ⟨gb420, 3, none⟩ (.slice Ao28 t416.length co28)) w.heap.size (fun k_ => some k_ ≠ (.slice Ao23 t406.length co23 : Value).ownBlock ∧ some k_ ≠ (.slice Ao28 t416.length co28 : Value).ownBlock) (.slice Ao13 t393.length co13) t393) := ⟨by (with_reducible repeat (first | apply Kd.R_alloc | apply Kd.R_drewN | apply Kd.R_drew)); exact Kd.R_mono (Kd.R_far (p := ⟨gb420, 3, none⟩) (Kd.R_far (p := ⟨gb420, 2, none⟩) (Kd.R_far (p := ⟨gb420, 1, none⟩) (Kd.R_far (p := ⟨gb420, 0, none⟩) (Kd.R_far (p := ⟨gb419, 3, none⟩) (Kd.R_far (p := ⟨gb419, 2, none⟩) (Kd.R_far (p := ⟨gb419, 1, none⟩) (Kd.R_far (p := ⟨gb419, 0, none⟩) (Kd.R_types (Kd.R_types HO395.out BK419.out (by decide)) BK420.out (by decide)) (fun _ hk => hk.1.2) (.bool t399)) (fun _ hk => hk.1.2) (.slice Ao21 t400.length co21)) (fun _ hk => hk.1.2) (.slice Ao22 t403.length co22)) (fun _ hk => hk.1.2) (.slice Ao23 t406.length co23)) (fun _ hk => hk.2) (.bool t409)) (fun _ hk => hk.2) (.slice Ao26 t410.length co26)) (fun _ hk => hk.2) (.slice Ao27 t413.length co27)) (fun _ hk => hk.2) (.slice Ao28 t416.length co28)) (fun _ hk => ⟨hk.1.1.1.2, hk.1.1.2⟩)⟩
        have n3_ : Aside0 (Kd.R Kd.string 9 ((((((((w17.setCell ⟨gb419, 0, none⟩ (.bool t399)).setCell ⟨gb419, 1, none⟩ (.slice Ao21 t400.length co21)).setCell ⟨gb419, 2, none⟩ (.slice Ao22 t403.length co22)).setCell ⟨gb419, 3, none⟩ (.slice Ao23 t406.length co23)).setCell ⟨gb420, 0, none⟩ (.bool t409)).setCell ⟨gb420, 1, none⟩ (.slice Ao26 t410.length co26)).setCell ⟨gb420, 2, none⟩ (.slice Ao27 t413.length co27)).setCell ⟨gb420, 3, none⟩ (.slice Ao28 t416.length co28)) w.heap.size (fun k_ => some k_ ≠ (.slice Ao11 t387.length co11 : Value).ownBlock ∧ some k_ ≠ (.slice Ao12 t390.length co12 : Value).ownBlock ∧ some k_ ≠ (.slice Ao22 t403.length co22 : Value).ownBlock ∧ some k_ ≠ (.slice Ao26 t410.length co26 : Value).ownBlock ∧ some k_ ≠ (.slice Ao27 t413.length co27 : Value).ownBlock) (.slice Ao21 t400.length co21) t400) := ⟨by (with_reducible repeat (first | apply Kd.R_alloc | apply Kd.R_drewN | apply Kd.R_drew)); exact Kd.R_mono (Kd.R_far (p := ⟨gb420, 3, none⟩) (Kd.R_far (p := ⟨gb420, 2, none⟩) (Kd.R_far (p := ⟨gb420, 1, none⟩) (Kd.R_far (p := ⟨gb420, 0, none⟩) (Kd.R_far (p := ⟨gb419, 3, none⟩) (Kd.R_far (p := ⟨gb419, 2, none⟩) (Kd.R_far (p := ⟨gb419, 1, none⟩) (Kd.R_far (p := ⟨gb419, 0, none⟩) (Kd.R_types (Kd.R_types HO402.out BK419.out (by decide)) BK420.out (by decide)) (fun _ hk => hk.1.2) (.bool t399)) (fun _ hk => hk.1.2) (.slice Ao21 t400.length co21)) (fun _ hk => hk.1.2) (.slice Ao22 t403.length co22)) (fun _ hk => hk.1.2) (.slice Ao23 t406.length co23)) (fun _ hk => hk.2) (.bool t409)) (fun _ hk => hk.2) (.slice Ao26 t410.length co26)) (fun _ hk => hk.2) (.slice Ao27 t413.length co27)) (fun _ hk => hk.2) (.slice Ao28 t416.length co28)) (fun _ hk => ⟨hk.1.1.1.2, ⟨hk.1.1.2, ⟨hk.1.1.1.1.1, ⟨hk.1.1.1.1.2.1, hk.1.1.1.1.2.2⟩⟩⟩⟩)⟩
        have n4_ : Aside0 (Kd.R Kd.string 9 ((((((((w17.setCell ⟨gb419, 0, none⟩ (.bool t399)).setCell ⟨gb419, 1, none⟩ (.slice Ao21 t400.length co21)).setCell ⟨gb419, 2, none⟩ (.slice Ao22 t403.length co22)).setCell ⟨gb419, 3, none⟩ (.slice Ao23 t406.length co23)).setCell ⟨gb420, 0, none⟩ (.bool t409)).setCell ⟨gb420, 1, none⟩ (.slice Ao26 t410.length co26)).setCell ⟨gb420, 2, none⟩ (.slice Ao27 t413.length co27)).setCell ⟨gb420, 3, none⟩ (.slice Ao28 t416.length co28)) w.heap.size (fun k_ => some k_ ≠ (.slice Ao11 t387.length co11 : Value).ownBlock ∧ some k_ ≠ (.slice Ao12 t390.length co12 : Value).ownBlock ∧ some k_ ≠ (.slice Ao21 t400.length co21 : Value).ownBlock ∧ some k_ ≠ (.slice Ao26 t410.length co26 : Value).ownBlock ∧ some k_ ≠ (.slice Ao27 t413.length co27 : Value).ownBlock) (.slice Ao22 t403.length co22) t403) := ⟨by (with_reducible repeat (first | apply Kd.R_alloc | apply Kd.R_drewN | apply Kd.R_drew)); exact Kd.R_mono (Kd.R_far (p := ⟨gb420, 3, none⟩) (Kd.R_far (p := ⟨gb420, 2, none⟩) (Kd.R_far (p := ⟨gb420, 1, none⟩) (Kd.R_far (p := ⟨gb420, 0, none⟩) (Kd.R_far (p := ⟨gb419, 3, none⟩) (Kd.R_far (p := ⟨gb419, 2, none⟩) (Kd.R_far (p := ⟨gb419, 1, none⟩) (Kd.R_far (p := ⟨gb419, 0, none⟩) (Kd.R_types (Kd.R_types HO405.out BK419.out (by decide)) BK420.out (by decide)) (fun _ hk => hk.1.2) (.bool t399)) (fun _ hk => hk.1.2) (.slice Ao21 t400.length co21)) (fun _ hk => hk.1.2) (.slice Ao22 t403.length co22)) (fun _ hk => hk.1.2) (.slice Ao23 t406.length co23)) (fun _ hk => hk.2) (.bool t409)) (fun _ hk => hk.2) (.slice Ao26 t410.length co26)) (fun _ hk => hk.2) (.slice Ao27 t413.length co27)) (fun _ hk => hk.2) (.slice Ao28 t416.length co28)) (fun _ hk => ⟨hk.1.1.1.2, ⟨hk.1.1.2, ⟨hk.1.1.1.1.1, ⟨hk.1.1.1.1.2.1, hk.1.1.1.1.2.2⟩⟩⟩⟩)⟩
        have n5_ : Aside0 (Kd.R (Kd.int .i64) 3 ((((((((w17.setCell ⟨gb419, 0, none⟩ (.bool t399)).setCell ⟨gb419, 1, none⟩ (.slice Ao21 t400.length co21)).setCell ⟨gb419, 2, none⟩ (.slice Ao22 t403.length co22)).setCell ⟨gb419, 3, none⟩ (.slice Ao23 t406.length co23)).setCell ⟨gb420, 0, none⟩ (.bool t409)).setCell ⟨gb420, 1, none⟩ (.slice Ao26 t410.length co26)).setCell ⟨gb420, 2, none⟩ (.slice Ao27 t413.length co27)).setCell ⟨gb420, 3, none⟩ (.slice Ao28 t416.length co28)) w.heap.size (fun k_ => some k_ ≠ (.slice Ao13 t393.length co13 : Value).ownBlock ∧ some k_ ≠ (.slice Ao28 t416.length co28 : Value).ownBlock) (.slice Ao23 t406.length co23) t406) := ⟨by (with_reducible repeat (first | apply Kd.R_alloc | apply Kd.R_drewN | apply Kd.R_drew)); exact Kd.R_mono (Kd.R_far (p := ⟨gb420, 3, none⟩) (Kd.R_far (p := ⟨gb420, 2, none⟩) (Kd.R_far (p := ⟨gb420, 1, none⟩) (Kd.R_far (p := ⟨gb420, 0, none⟩) (Kd.R_far (p := ⟨gb419, 3, none⟩) (Kd.R_far (p := ⟨gb419, 2, none⟩) (Kd.R_far (p := ⟨gb419, 1, none⟩) (Kd.R_far (p := ⟨gb419, 0, none⟩) (Kd.R_types (Kd.R_types HO408.out BK419.out (by decide)) BK420.out (by decide)) (fun _ hk => hk.1.2) (.bool t399)) (fun _ hk => hk.1.2) (.slice Ao21 t400.length co21)) (fun _ hk => hk.1.2) (.slice Ao22 t403.length co22)) (fun _ hk => hk.1.2) (.slice Ao23 t406.length co23)) (fun _ hk => hk.2) (.bool t409)) (fun _ hk => hk.2) (.slice Ao26 t410.length co26)) (fun _ hk => hk.2) (.slice Ao27 t413.length co27)) (fun _ hk => hk.2) (.slice Ao28 t416.length co28)) (fun _ hk => ⟨hk.1.1.2, hk.1.1.1⟩)⟩
        have n6_ : Aside0 (Kd.R Kd.string 9 ((((((((w17.setCell ⟨gb419, 0, none⟩ (.bool t399)).setCell ⟨gb419, 1, none⟩ (.slice Ao21 t400.length co21)).setCell ⟨gb419, 2, none⟩ (.slice Ao22 t403.length co22)).setCell ⟨gb419, 3, none⟩ (.slice Ao23 t406.length co23)).setCell ⟨gb420, 0, none⟩ (.bool t409)).setCell ⟨gb420, 1, none⟩ (.slice Ao26 t410.length co26)).setCell ⟨gb420, 2, none⟩ (.slice Ao27 t413.length co27)).setCell ⟨gb420, 3, none⟩ (.slice Ao28 t416.length co28)) w.heap.size (fun k_ => some k_ ≠ (.slice Ao11 t387.length co11 : Value).ownBlock ∧ some k_ ≠ (.slice Ao12 t390.length co12 : Value).ownBlock ∧ some k_ ≠ (.slice Ao21 t400.length co21 : Value).ownBlock ∧ some k_ ≠ (.slice Ao22 t403.length co22 : Value).ownBlock ∧ some k_ ≠ (.slice Ao27 t413.length co27 : Value).ownBlock) (.slice Ao26 t410.length co26) t410) := ⟨by (with_reducible repeat (first | apply Kd.R_alloc | apply Kd.R_drewN | apply Kd.R_drew)); exact Kd.R_mono (Kd.R_far (p := ⟨gb420, 3, none⟩) (Kd.R_far (p := ⟨gb420, 2, none⟩) (Kd.R_far (p := ⟨gb420, 1, none⟩) (Kd.R_far (p := ⟨gb420, 0, none⟩) (Kd.R_far (p := ⟨gb419, 3, none⟩) (Kd.R_far (p := ⟨gb419, 2, none⟩) (Kd.R_far (p := ⟨gb419, 1, none⟩) (Kd.R_far (p := ⟨gb419, 0, none⟩) (Kd.R_types (Kd.R_types HO412.out BK419.out (by decide)) BK420.out (by decide)) (fun _ hk => hk.1.2) (.bool t399)) (fun _ hk => hk.1.2) (.slice Ao21 t400.length co21)) (fun _ hk => hk.1.2) (.slice Ao22 t403.length co22)) (fun _ hk => hk.1.2) (.slice Ao23 t406.length co23)) (fun _ hk => hk.2) (.bool t409)) (fun _ hk => hk.2) (.slice Ao26 t410.length co26)) (fun _ hk => hk.2) (.slice Ao27 t413.length co27)) (fun _ hk => hk.2) (.slice Ao28 t416.length co28)) (fun _ hk => ⟨hk.1.1.1.2, ⟨hk.1.1.2, ⟨hk.1.1.1.1.1, ⟨hk.1.1.1.1.2.1, hk.1.1.1.1.2.2⟩⟩⟩⟩)⟩
        have n7_ : Aside0 (Kd.R Kd.string 9 ((((((((w17.setCell ⟨gb419, 0, none⟩ (.bool t399)).setCell ⟨gb419, 1, none⟩ (.slice Ao21 t400.length co21)).setCell ⟨gb419, 2, none⟩ (.slice Ao22 t403.length co22)).setCell ⟨gb419, 3, none⟩ (.slice Ao23 t406.length co23)).setCell ⟨gb420, 0, none⟩ (.bool t409)).setCell ⟨gb420, 1, none⟩ (.slice Ao26 t410.length co26)).setCell ⟨gb420, 2, none⟩ (.slice Ao27 t413.length co27)).setCell ⟨gb420, 3, none⟩ (.slice Ao28 t416.length co28)) w.heap.size (fun k_ => some k_ ≠ (.slice Ao11 t387.length co11 : Value).ownBlock ∧ some k_ ≠ (.slice Ao12 t390.length co12 : Value).ownBlock ∧ some k_ ≠ (.slice Ao21 t400.length co21 : Value).ownBlock ∧ some k_ ≠ (.slice Ao22 t403.length co22 : Value).ownBlock ∧ some k_ ≠ (.slice Ao26 t410.length co26 : Value).ownBlock) (.slice Ao27 t413.length co27) t413) := ⟨by (with_reducible repeat (first | apply Kd.R_alloc | apply Kd.R_drewN | apply Kd.R_drew)); exact Kd.R_mono (Kd.R_far (p := ⟨gb420, 3, none⟩) (Kd.R_far (p := ⟨gb420, 2, none⟩) (Kd.R_far (p := ⟨gb420, 1, none⟩) (Kd.R_far (p := ⟨gb420, 0, none⟩) (Kd.R_far (p := ⟨gb419, 3, none⟩) (Kd.R_far (p := ⟨gb419, 2, none⟩) (Kd.R_far (p := ⟨gb419, 1, none⟩) (Kd.R_far (p := ⟨gb419, 0, none⟩) (Kd.R_types (Kd.R_types HO415.out BK419.out (by decide)) BK420.out (by decide)) (fun _ hk => hk.1.2) (.bool t399)) (fun _ hk => hk.1.2) (.slice Ao21 t400.length co21)) (fun _ hk => hk.1.2) (.slice Ao22 t403.length co22)) (fun _ hk => hk.1.2) (.slice Ao23 t406.length co23)) (fun _ hk => hk.2) (.bool t409)) (fun _ hk => hk.2) (.slice Ao26 t410.length co26)) (fun _ hk => hk.2) (.slice Ao27 t413.length co27)) (fun _ hk => hk.2) (.slice Ao28 t416.length co28)) (fun _ hk => ⟨hk.1.1.1.2, ⟨hk.1.1.2, ⟨hk.1.1.1.1.1, ⟨hk.1.1.1.1.2.1, hk.1.1.1.1.2.2⟩⟩⟩⟩)⟩
        have n8_ : Aside0 (Kd.R (Kd.int .i64) 3 ((((((((w17.setCell ⟨gb419, 0, none⟩ (.bool t399)).setCell ⟨gb419, 1, none⟩ (.slice Ao21 t400.length co21)).setCell ⟨gb419, 2, none⟩ (.slice Ao22 t403.length co22)).setCell ⟨gb419, 3, none⟩ (.slice Ao23 t406.length co23)).setCell ⟨gb420, 0, none⟩ (.bool t409)).setCell ⟨gb420, 1, none⟩ (.slice Ao26 t410.length co26)).setCell ⟨gb420, 2, none⟩ (.slice Ao27 t413.length co27)).setCell ⟨gb420, 3, none⟩ (.slice Ao28 t416.length co28)) w.heap.size (fun k_ => some k_ ≠ (.slice Ao13 t393.length co13 : Value).ownBlock ∧ some k_ ≠ (.slice Ao23 t406.length co23 : Value).ownBlock) (.slice Ao28 t416.length co28) t416) := ⟨by (with_reducible repeat (first | apply Kd.R_alloc | apply Kd.R_drewN | apply Kd.R_drew)); exact Kd.R_mono (Kd.R_far (p := ⟨gb420, 3, none⟩) (Kd.R_far (p := ⟨gb420, 2, none⟩) (Kd.R_far (p := ⟨gb420, 1, none⟩) (Kd.R_far (p := ⟨gb420, 0, none⟩) (Kd.R_far (p := ⟨gb419, 3, none⟩) (Kd.R_far (p := ⟨gb419, 2, none⟩) (Kd.R_far (p := ⟨gb419, 1, none⟩) (Kd.R_far (p := ⟨gb419, 0, none⟩) (Kd.R_types (Kd.R_types HO418.out BK419.out (by decide)) BK420.out (by decide)) (fun _ hk => hk.1.2) (.bool t399)) (fun _ hk => hk.1.2) (.slice Ao21 t400.length co21)) (fun _ hk => hk.1.2) (.slice Ao22 t403.length co22)) (fun _ hk => hk.1.2) (.slice Ao23 t406.length co23)) (fun _ hk => hk.2) (.bool t409)) (fun _ hk => hk.2) (.slice Ao26 t410.length co26)) (fun _ hk => hk.2) (.slice Ao27 t413.length co27)) (fun _ hk => hk.2) (.slice Ao28 t416.length co28)) (fun _ hk => ⟨hk.1.1.2, hk.1.1.1⟩)⟩
        have n9_ : Aside0 (((((((((w17.setCell ⟨gb419, 0, none⟩ (.bool t399)).setCell ⟨gb419, 1, none⟩ (.slice Ao21 t400.length co21)).setCell ⟨gb419, 2, none⟩ (.slice Ao22 t403.length co22)).setCell ⟨gb419, 3, none⟩ (.slice Ao23 t406.length co23)).setCell ⟨gb420, 0, none⟩ (.bool t409)).setCell ⟨gb420, 1, none⟩ (.slice Ao26 t410.length co26)).setCell ⟨gb420, 2, none⟩ (.slice Ao27 t413.length co27)).setCell ⟨gb420, 3, none⟩ (.slice Ao28 t416.length co28)).heap[gb397]? = some (.cells #[.bool t386, .slice Ao11 t387.length co11, .slice Ao12 t390.length co12, .slice Ao13 t393.length co13] 41 (0, 0))) := ⟨by (with_reducible repeat (first | refine blk_drewN ?_ _ | refine blk_drew ?_ | refine blk_alloc ?_ _)); refine blk_far ?_ NB397_420.out _; (with_reducible repeat (first | refine blk_drewN ?_ _ | refine blk_drew ?_ | refine blk_alloc ?_ _)); refine blk_far ?_ NB397_420.out _; (with_reducible repeat (first | refine blk_drewN ?_ _ | refine blk_drew ?_ | refine blk_alloc ?_ _)); refine blk_far ?_ NB397_420.out _; (with_reducible repeat (first | refine blk_drewN ?_ _ | refine blk_drew ?_ | refine blk_alloc ?_ _)); refine blk_far ?_ NB397_420.out _; (with_reducible repeat (first | refine blk_drewN ?_ _ | refine blk_drew ?_ | refine blk_alloc ?_ _)); refine blk_far ?_ NB397_419.out _; (with_reducible repeat (first | refine blk_drewN ?_ _ | refine blk_drew ?_ | refine blk_alloc ?_ _)); refine blk_far ?_ NB397_419.out _; (with_reducible repeat (first | refine blk_drewN ?_ _ | refine blk_drew ?_ | refine blk_alloc ?_ _)); refine blk_far ?_ NB397_419.out _; (with_reducible repeat (first | refine blk_drewN ?_ _ | refine blk_drew ?_ | refine blk_alloc ?_ _)); refine blk_far ?_ NB397_419.out _; (with_reducible repeat (first | refine blk_drewN ?_ _ | refine blk_drew ?_ | refine blk_alloc ?_ _)); exact BK397.out⟩
        have n10_ : Aside0 (((((((((w17.setCell ⟨gb419, 0, none⟩ (.bool t399)).setCell ⟨gb419, 1, none⟩ (.slice Ao21 t400.length co21)).setCell ⟨gb419, 2, none⟩ (.slice Ao22 t403.length co22)).setCell ⟨gb419, 3, none⟩ (.slice Ao23 t406.length co23)).setCell ⟨gb420, 0, none⟩ (.bool t409)).setCell ⟨gb420, 1, none⟩ (.slice Ao26 t410.length co26)).setCell ⟨gb420, 2, none⟩ (.slice Ao27 t413.length co27)).setCell ⟨gb420, 3, none⟩ (.slice Ao28 t416.length co28)).heap[gb419]? = some (.cells #[.bool t399, .slice Ao21 t400.length co21, .slice Ao22 t403.length co22, .slice Ao23 t406.length co23] 41 (0, 0))) := ⟨by (with_reducible repeat (first | refine blk_drewN ?_ _ | refine blk_drew ?_ | refine blk_alloc ?_ _)); refine blk_far ?_ NB419_420.out _; (with_reducible repeat (first | refine blk_drewN ?_ _ | refine blk_drew ?_ | refine blk_alloc ?_ _)); refine blk_far ?_ NB419_420.out _; (with_reducible repeat (first | refine blk_drewN ?_ _ | refine blk_drew ?_ | refine blk_alloc ?_ _)); refine blk_far ?_ NB419_420.out _; (with_reducible repeat (first | refine blk_drewN ?_ _ | refine blk_drew ?_ | refine blk_alloc ?_ _)); refine blk_far ?_ NB419_420.out _; (with_reducible repeat (first | refine blk_drewN ?_ _ | refine blk_drew ?_ | refine blk_alloc ?_ _)); refine blk_put (cs := #[.bool t399, .slice Ao21 t400.length co21, .slice Ao22 t403.length co22, .slice none 0 0]) ?_ 3 _ rfl; (with_reducible repeat (first | refine blk_drewN ?_ _ | refine blk_drew ?_ | refine blk_alloc ?_ _)); refine blk_put (cs := #[.bool t399, .slice Ao21 t400.length co21, .slice none 0 0, .slice none 0 0]) ?_ 2 _ rfl; (with_reducible repeat (first | refine blk_drewN ?_ _ | refine blk_drew ?_ | refine blk_alloc ?_ _)); refine blk_put (cs := #[.bool t399, .slice none 0 0, .slice none 0 0, .slice none 0 0]) ?_ 1 _ rfl; (with_reducible repeat (first | refine blk_drewN ?_ _ | refine blk_drew ?_ | refine blk_alloc ?_ _)); refine blk_put (cs := #[.bool false, .slice none 0 0, .slice none 0 0, .slice none 0 0]) ?_ 0 _ rfl; (with_reducible repeat (first | refine blk_drewN ?_ _ | refine blk_drew ?_ | refine blk_alloc ?_ _)); exact BK419.out⟩
        have n11_ : Aside0 (((((((((w17.setCell ⟨gb419, 0, none⟩ (.bool t399)).setCell ⟨gb419, 1, none⟩ (.slice Ao21 t400.length co21)).setCell ⟨gb419, 2, none⟩ (.slice Ao22 t403.length co22)).setCell ⟨gb419, 3, none⟩ (.slice Ao23 t406.length co23)).setCell ⟨gb420, 0, none⟩ (.bool t409)).setCell ⟨gb420, 1, none⟩ (.slice Ao26 t410.length co26)).setCell ⟨gb420, 2, none⟩ (.slice Ao27 t413.length co27)).setCell ⟨gb420, 3, none⟩ (.slice Ao28 t416.length co28)).heap[gb420]? = some (.cells #[.bool t409, .slice Ao26 t410.length co26, .slice Ao27 t413.length co27, .slice Ao28 t416.length co28] 41 (0, 0))) := ⟨by (with_reducible repeat (first | refine blk_drewN ?_ _ | refine blk_drew ?_ | refine blk_alloc ?_ _)); refine blk_put (cs := #[.bool t409, .slice Ao26 t410.length co26, .slice Ao27 t413.length co27, .slice none 0 0]) ?_ 3 _ rfl; (with_reducible repeat (first | refine blk_drewN ?_ _ | refine blk_drew ?_ | refine blk_alloc ?_ _)); refine blk_put (cs := #[.bool t409, .slice Ao26 t410.length co26, .slice none 0 0, .slice none 0 0]) ?_ 2 _ rfl; (with_reducible repeat (first | refine blk_drewN ?_ _ | refine blk_drew ?_ | refine blk_alloc ?_ _)); refine blk_put (cs := #[.bool t409, .slice none 0 0, .slice none 0 0, .slice none 0 0]) ?_ 1 _ rfl; (with_reducible repeat (first | refine blk_drewN ?_ _ | refine blk_drew ?_ | refine blk_alloc ?_ _)); refine blk_put (cs := #[.bool false, .slice none 0 0, .slice none 0 0, .slice none 0 0]) ?_ 0 _ rfl; (with_reducible repeat (first | refine blk_drewN ?_ _ | refine blk_drew ?_ | refine blk_alloc ?_ _)); refine blk_far ?_ NB420_419.out _; (with_reducible repeat (first | refine blk_drewN ?_ _ | refine blk_drew ?_ | refine blk_alloc ?_ _)); refine blk_far ?_ NB420_419.out _; (with_reducible repeat (first | refine blk_drewN ?_ _ | refine blk_drew ?_ | refine blk_alloc ?_ _)); refine blk_far ?_ NB420_419.out _; (with_reducible repeat (first | refine blk_drewN ?_ _ | refine blk_drew ?_ | refine blk_alloc ?_ _)); refine blk_far ?_ NB420_419.out _; (with_reducible repeat (first | refine blk_drewN ?_ _ | refine blk_drew ?_ | refine blk_alloc ?_ _)); exact BK420.out⟩
        have n12_ : Aside0 (Below w.heap.size w ((((((((w17.setCell ⟨gb419, 0, none⟩ (.bool t399)).setCell ⟨gb419, 1, none⟩ (.slice Ao21 t400.length co21)).setCell ⟨gb419, 2, none⟩ (.slice Ao22 t403.length co22)).setCell ⟨gb419, 3, none⟩ (.slice Ao23 t406.length co23)).setCell ⟨gb420, 0, none⟩ (.bool t409)).setCell ⟨gb420, 1, none⟩ (.slice Ao26 t410.length co26)).setCell ⟨gb420, 2, none⟩ (.slice Ao27 t413.length co27)).setCell ⟨gb420, 3, none⟩ (.slice Ao28 t416.length co28))) := ⟨by repeat (first | (with_reducible first | exact HB.out | apply below_alloc | apply pw_below_drewN | apply below_drew1 | refine below_set ?_ GE397.out | refine below_set ?_ GE419.out | refine below_set ?_ GE420.out) | exact HB.out)⟩
        (try clear HO389)
        (try clear HO392)
        (try clear HO395)
        (try clear HO402)
        (try clear HO405)
        (try clear HO408)
        (try clear HO412)
        (try clear HO415)
        (try clear HO418)
        (try clear BK397)
        (try clear BK419)
        (try clear BK420)
        (try clear HB)
        generalize ((((((((w17.setCell ⟨gb419, 0, none⟩ (.bool t399)).setCell ⟨gb419, 1, none⟩ (.slice Ao21 t400.length co21)).setCell ⟨gb419, 2, none⟩ (.slice Ao22 t403.length co22)).setCell ⟨gb419, 3, none⟩ (.slice Ao23 t406.length co23)).setCell ⟨gb420, 0, none⟩ (.bool t409)).setCell ⟨gb420, 1, none⟩ (.slice Ao26 t410.length co26)).setCell ⟨gb420, 2, none⟩ (.slice Ao27 t413.length co27)).setCell ⟨gb420, 3, none⟩ (.slice Ao28 t416.length co28)) = w38 at n0_ n1_ n2_ n3_ n4_ n5_ n6_ n7_ n8_ n9_ n10_ n11_ n12_ ⊢
        have HO389 := n0_
        have HO392 := n1_
        have HO395 := n2_
        have HO402 := n3_
        have HO405 := n4_
        have HO408 := n5_
        have HO412 := n6_
        have HO415 := n7_
        have HO418 := n8_
        have BK397 := n9_
        have BK419 := n10_
        have BK420 := n11_
        have HB := n12_
        clear n0_ n1_ n2_ n3_ n4_ n5_ n6_ n7_ n8_ n9_ n10_ n11_ n12_
        have n0_ := Aside0.mk (Kd.R_drew HO389.out)
        have n1_ := Aside0.mk (Kd.R_drew HO392.out)
        have n2_ := Aside0.mk (Kd.R_drew HO395.out)
        have n3_ := Aside0.mk (Kd.R_drew HO402.out)
        have n4_ := Aside0.mk (Kd.R_drew HO405.out)
        have n5_ := Aside0.mk (Kd.R_drew HO408.out)
        have n6_ := Aside0.mk (Kd.R_drew HO412.out)
        have n7_ := Aside0.mk (Kd.R_drew HO415.out)
        have n8_ := Aside0.mk (Kd.R_drew HO418.out)
        have n9_ := Aside0.mk (blk_drew BK397.out)
        have n10_ := Aside0.mk (blk_drew BK419.out)
        have n11_ := Aside0.mk (blk_drew BK420.out)
        have n12_ := Aside0.mk (below_drew1 HB.out)
        clear HO389
        clear HO392
        clear HO395
        clear HO402
        clear HO405
        clear HO408
        clear HO412
        clear HO415
        clear HO418
        clear BK397
        clear BK419
        clear BK420
        clear HB
        have HO389 := n0_
        have HO392 := n1_
        have HO395 := n2_
        have HO402 := n3_
        have HO405 := n4_
        have HO408 := n5_
        have HO412 := n6_
        have HO415 := n7_
        have HO418 := n8_
        have BK397 := n9_
        have BK419 := n10_
        have BK420 := n11_
        have HB := n12_
        clear n0_ n1_ n2_ n3_ n4_ n5_ n6_ n7_ n8_ n9_ n10_ n11_ n12_
        refine start_ (n := 14) (S := fun w' => w'.cell? ⟨gb397, 0, none⟩ = some (.bool t386) ∧ w'.cell? ⟨gb397, 1, none⟩ = some (.slice Ao11 t387.length co11) ∧ w'.cell? ⟨gb397, 2, none⟩ = some (.slice Ao12 t390.length co12) ∧ w'.cell? ⟨gb397, 3, none⟩ = some (.slice Ao13 t393.length co13)) (ds := []) #[false, false, false, false, false, false, false, false, false, false, false, false, false, false] (by kernel_rfl) rfl rfl ⟨(blk_cell BK397.out 0).trans rfl, (blk_cell BK397.out 1).trans rfl, (blk_cell BK397.out 2).trans rfl, (blk_cell BK397.out 3).trans rfl⟩ (fun hHeld => ?_); refine with_tabW laws_FnChildren.tab6 laws_FnChildren.bits6 (fun HT_ HW_ => ?_)
        generalize w38.drew = w39 at HO389 HO392 HO395 HO402 HO405 HO408 HO412 HO415 HO418 BK397 BK419 BK420 HB hHeld ⊢
        refine pure_ (i := 0) (N := some 23) (v := ?_) (a' := ?_) #[true, false, false, false, false, false, false, false, false, false, false, false, false, false] rfl rfl (any_of HT_.out (by kernel_rfl)) (fun _ _ _ h => h) (Or.inl ⟨by rfl, ?_⟩) ?_ ?_
        rotate_left
        · intro w'
          go_simp
          with_reducible rfl
        rotate_left
        · simp only [Act.put, List.setIfInBounds_toArray, List.set_cons_zero, List.set_cons_succ, i64_w, i32_w]
          rfl
        refine pure_ (i := 2) (N := some 25) (v := ?_) (a' := ?_) #[true, false, true, false, false, false, false, false, false, false, false, false, false, false] rfl rfl (any_of HT_.out (by kernel_rfl)) (fun _ _ _ h => h) (Or.inl ⟨by rfl, ?_⟩) ?_ ?_
        rotate_left
        · intro w'
          go_simp
          with_reducible rfl
        rotate_left
        · simp only [Act.put, List.setIfInBounds_toArray, List.set_cons_zero, List.set_cons_succ, i64_w, i32_w]
          rfl
        refine take_ (i := 1) (N := some 24) (v := ?_) (a' := ?_) #[true, true, true, false, false, false, false, false, false, false, false, false, false, false] rfl rfl (take_ofW HT_.out HW_.out (by kernel_rfl)) (fun _ _ _ h => h) (Or.inl ⟨by rfl, ?_⟩) hHeld ?_ ?_
        rotate_left
        · rintro w' ⟨s0, s1, s2, s3⟩
          go_simp
          with_reducible rfl
        rotate_left
        · simp only [Act.put, List.setIfInBounds_toArray, List.set_cons_zero, List.set_cons_succ, i64_w, i32_w]
          rfl
        refine one_ (i := 3) (N := some 26) #[true, true, true, true, false, false, false, false, false, false, false, false, false, false] rfl rfl (one_of HT_.out (by kernel_rfl)) (by decide) (fun K hK => ?_)
        refine goes_ Try.func26 (by kernel_rfl) rfl #[.agg #[.bool t386, .slice Ao11 t387.length co11, .slice Ao12 t390.length co12, .slice Ao13 t393.length co13], .string t396] (by rfl) rfl rfl (by (try simp only [List.map_toArray, List.map_cons, List.map_nil]); first | done | rfl | (simp only [List.length_drop, List.length_take]; rfl)) ?_
        with_reducible refine (spec_ChildOf.calls k t386 _ _ t387 _ _ t390 _ _ t393 t396 t421 _ ?side1 ?side2 ?side3 ?side4 ?side5 ?side6 A29.out).mono ?_
        (case side1 => repeat (first | exact (Kd.R_reads' HO389.out).2.2 | (with_reducible refine Kd.C_alloc ?_ _) | (with_reducible refine Kd.C_drewN ?_ _) | (with_reducible refine Kd.C_drew ?_)))
        (case side2 => exact (Kd.R_reads' HO389.out).2.1)
        (case side3 => repeat (first | exact (Kd.R_reads' HO392.out).2.2 | (with_reducible refine Kd.C_alloc ?_ _) | (with_reducible refine Kd.C_drewN ?_ _) | (with_reducible refine Kd.C_drew ?_)))
        (case side4 => exact (Kd.R_reads' HO392.out).2.1)
        (case side5 => repeat (first | exact (Kd.R_reads' HO395.out).2.2 | (with_reducible refine Kd.C_alloc ?_ _) | (with_reducible refine Kd.C_drewN ?_ _) | (with_reducible refine Kd.C_drew ?_)))
        (case side6 => exact (Kd.R_reads' HO395.out).2.1)
        rintro e w40 ⟨rfl, hb⟩
        refine ⟨_, rfl, ?_⟩
        have n0_ := Aside0.mk (Kd.R_below (by (with_reducible repeat (first | apply Kd.R_alloc | apply Kd.R_drewN | apply Kd.R_drew)); exact HO389.out) hb)
        have n1_ := Aside0.mk (Kd.R_below (by (with_reducible repeat (first | apply Kd.R_alloc | apply Kd.R_drewN | apply Kd.R_drew)); exact HO392.out) hb)
        have n2_ := Aside0.mk (Kd.R_below (by (with_reducible repeat (first | apply Kd.R_alloc | apply Kd.R_drewN | apply Kd.R_drew)); exact HO395.out) hb)
        have n3_ := Aside0.mk (Kd.R_below (by (with_reducible repeat (first | apply Kd.R_alloc | apply Kd.R_drewN | apply Kd.R_drew)); exact HO402.out) hb)
        have n4_ := Aside0.mk (Kd.R_below (by (with_reducible repeat (first | apply Kd.R_alloc | apply Kd.R_drewN | apply Kd.R_drew)); exact HO405.out) hb)
        have n5_ := Aside0.mk (Kd.R_below (by (with_reducible repeat (first | apply Kd.R_alloc | apply Kd.R_drewN | apply Kd.R_drew)); exact HO408.out) hb)
        have n6_ := Aside0.mk (Kd.R_below (by (with_reducible repeat (first | apply Kd.R_alloc | apply Kd.R_drewN | apply Kd.R_drew)); exact HO412.out) hb)
        have n7_ := Aside0.mk (Kd.R_below (by (with_reducible repeat (first | apply Kd.R_alloc | apply Kd.R_drewN | apply Kd.R_drew)); exact HO415.out) hb)
        have n8_ := Aside0.mk (Kd.R_below (by (with_reducible repeat (first | apply Kd.R_alloc | apply Kd.R_drewN | apply Kd.R_drew)); exact HO418.out) hb)
        have n9_ := Aside0.mk (blk_below (g := gb397) (o := .cells #[.bool t386, .slice Ao11 t387.length co11, .slice Ao12 t390.length co12, .slice Ao13 t393.length co13] 41 (0, 0)) (by (with_reducible repeat (first | refine blk_drewN ?_ _ | refine blk_drew ?_ | refine blk_alloc ?_ _)); exact BK397.out) hb)
        have n10_ := Aside0.mk (blk_below (g := gb419) (o := .cells #[.bool t399, .slice Ao21 t400.length co21, .slice Ao22 t403.length co22, .slice Ao23 t406.length co23] 41 (0, 0)) (by (with_reducible repeat (first | refine blk_drewN ?_ _ | refine blk_drew ?_ | refine blk_alloc ?_ _)); exact BK419.out) hb)
        have n11_ := Aside0.mk (blk_below (g := gb420) (o := .cells #[.bool t409, .slice Ao26 t410.length co26, .slice Ao27 t413.length co27, .slice Ao28 t416.length co28] 41 (0, 0)) (by (with_reducible repeat (first | refine blk_drewN ?_ _ | refine blk_drew ?_ | refine blk_alloc ?_ _)); exact BK420.out) hb)
        have n12_ := Aside0.mk (below_step (by repeat (first | (with_reducible first | exact HB.out | apply below_alloc | apply pw_below_drewN | apply below_drew1 | refine below_set ?_ GE397.out | refine below_set ?_ GE419.out | refine below_set ?_ GE420.out) | exact HB.out)) hb)
        clear HO389
        clear HO392
        clear HO395
        clear HO402
        clear HO405
        clear HO408
        clear HO412
        clear HO415
        clear HO418
        clear BK397
        clear BK419
        clear BK420
        clear HB
        have HO389 := n0_
        have HO392 := n1_
        have HO395 := n2_
        have HO402 := n3_
        have HO405 := n4_
        have HO408 := n5_
        have HO412 := n6_
        have HO415 := n7_
        have HO418 := n8_
        have BK397 := n9_
        have BK419 := n10_
        have BK420 := n11_
        have HB := n12_
        clear n0_ n1_ n2_ n3_ n4_ n5_ n6_ n7_ n8_ n9_ n10_ n11_ n12_
        (try clear hb)
        (try clear hb2)
        (try clear hk)
        (try clear hi)
        refine hK.out _ _ ⟨(blk_cell BK397.out 0).trans rfl, (blk_cell BK397.out 1).trans rfl, (blk_cell BK397.out 2).trans rfl, (blk_cell BK397.out 3).trans rfl⟩ (fun hHeld => ?_)
        clear hK K
        refine norm_ (a' := ?_) ?_ ?_
        rotate_left
        · show Act.put _ (some 26) _ = _
          simp only [Act.put, List.setIfInBounds_toArray, List.set_cons_zero, List.set_cons_succ, i64_w, i32_w]
          rfl
        refine pure_ (i := 4) (N := some 27) (v := ?_) (a' := ?_) #[true, true, true, true, true, false, false, false, false, false, false, false, false, false] rfl rfl (any_of HT_.out (by kernel_rfl)) (fun _ _ _ h => h) (Or.inl ⟨by rfl, ?_⟩) ?_ ?_
        rotate_left
        · intro w'
          go_simp
          with_reducible rfl
        rotate_left
        · simp only [Act.put, List.setIfInBounds_toArray, List.set_cons_zero, List.set_cons_succ, i64_w, i32_w]
          rfl
        refine pure_ (i := 5) (N := some 28) (v := ?_) (a' := ?_) #[true, true, true, true, true, true, false, false, false, false, false, false, false, false] rfl rfl (any_of HT_.out (by kernel_rfl)) (fun _ _ _ h => h) (Or.inl ⟨by rfl, ?_⟩) ?_ ?_
        rotate_left
        · intro w'
          go_simp
          with_reducible rfl
        rotate_left
        · simp only [Act.put, List.setIfInBounds_toArray, List.set_cons_zero, List.set_cons_succ, i64_w, i32_w]
          rfl
        refine pure_ (i := 6) (N := some 29) (v := undef) (a' := ?_) #[true, true, true, true, true, true, true, false, false, false, false, false, false, false] rfl rfl (any_of HT_.out (by kernel_rfl)) (fun _ _ _ h => h) (Or.inr ⟨by rfl, rfl⟩) ?_ ?_
        rotate_left
        · simp only [Act.put, List.setIfInBounds_toArray, List.set_cons_zero, List.set_cons_succ, i64_w, i32_w]
          rfl
        refine pure_ (i := 7) (N := some 30) (v := undef) (a' := ?_) #[true, true, true, true, true, true, true, true, false, false, false, false, false, false] rfl rfl (any_of HT_.out (by kernel_rfl)) (fun _ _ _ h => h) (Or.inr ⟨by rfl, rfl⟩) ?_ ?_
        rotate_left
        · simp only [Act.put, List.setIfInBounds_toArray, List.set_cons_zero, List.set_cons_succ, i64_w, i32_w]
          rfl
        refine pure_ (i := 8) (N := some 31) (v := undef) (a' := ?_) #[true, true, true, true, true, true, true, true, true, false, false, false, false, false] rfl rfl (any_of HT_.out (by kernel_rfl)) (fun _ _ _ h => h) (Or.inr ⟨by rfl, rfl⟩) ?_ ?_
        rotate_left
        · simp only [Act.put, List.setIfInBounds_toArray, List.set_cons_zero, List.set_cons_succ, i64_w, i32_w]
          rfl
        refine pure_ (i := 9) (N := some 32) (v := undef) (a' := ?_) #[true, true, true, true, true, true, true, true, true, true, false, false, false, false] rfl rfl (any_of HT_.out (by kernel_rfl)) (fun _ _ _ h => h) (Or.inr ⟨by rfl, rfl⟩) ?_ ?_
        rotate_left
        · simp only [Act.put, List.setIfInBounds_toArray, List.set_cons_zero, List.set_cons_succ, i64_w, i32_w]
          rfl
        refine pure_ (i := 10) (N := some 33) (v := undef) (a' := ?_) #[true, true, true, true, true, true, true, true, true, true, true, false, false, false] rfl rfl (any_of HT_.out (by kernel_rfl)) (fun _ _ _ h => h) (Or.inr ⟨by rfl, rfl⟩) ?_ ?_
        rotate_left
        · simp only [Act.put, List.setIfInBounds_toArray, List.set_cons_zero, List.set_cons_succ, i64_w, i32_w]
          rfl
        refine pure_ (i := 11) (N := some 34) (v := undef) (a' := ?_) #[true, true, true, true, true, true, true, true, true, true, true, true, false, false] rfl rfl (any_of HT_.out (by kernel_rfl)) (fun _ _ _ h => h) (Or.inr ⟨by rfl, rfl⟩) ?_ ?_
        rotate_left
        · simp only [Act.put, List.setIfInBounds_toArray, List.set_cons_zero, List.set_cons_succ, i64_w, i32_w]
          rfl
        refine pure_ (i := 12) (N := some 35) (v := undef) (a' := ?_) #[true, true, true, true, true, true, true, true, true, true, true, true, true, false] rfl rfl (any_of HT_.out (by kernel_rfl)) (fun _ _ _ h => h) (Or.inr ⟨by rfl, rfl⟩) ?_ ?_
        rotate_left
        · simp only [Act.put, List.setIfInBounds_toArray, List.set_cons_zero, List.set_cons_succ, i64_w, i32_w]
          rfl
        refine pure_ (i := 13) (N := some 36) (v := ?_) (a' := ?_) #[true, true, true, true, true, true, true, true, true, true, true, true, true, true] rfl rfl (any_of HT_.out (by kernel_rfl)) (fun _ _ _ h => h) (Or.inl ⟨by rfl, ?_⟩) ?_ ?_
        rotate_left
        · intro w'
          go_simp
          with_reducible rfl
        rotate_left
        · simp only [Act.put, List.setIfInBounds_toArray, List.set_cons_zero, List.set_cons_succ, i64_w, i32_w]
          rfl
        refine done_ (done_of HT_.out (by kernel_rfl)) ?_
        try go_wp2
        (first | go_meet | (refine Met.intro ?_; go_step; (repeat apply Exists.intro); refine ⟨?rel, ?eq⟩; (case eq => (try simp only [c23b0]); (try simp only [c30b0]); (try simp only [c30b0]); rfl)))
        case rel => exact ⟨_, (true), (by first | rfl | (simp; done) | (simp [*]; done)), H', ⟨by first | omega | exact Nat.le_refl _⟩, ⟨by (with_reducible repeat (first | apply Kd.R_alloc | apply Kd.R_drewN | apply Kd.R_drew)); exact HO389.out⟩, ⟨by (with_reducible repeat (first | apply Kd.R_alloc | apply Kd.R_drewN | apply Kd.R_drew)); exact HO392.out⟩, ⟨by (with_reducible repeat (first | apply Kd.R_alloc | apply Kd.R_drewN | apply Kd.R_drew)); exact HO395.out⟩, ⟨by (with_reducible repeat (first | apply Kd.R_alloc | apply Kd.R_drewN | apply Kd.R_drew)); exact HO402.out⟩, ⟨by (with_reducible repeat (first | apply Kd.R_alloc | apply Kd.R_drewN | apply Kd.R_drew)); exact HO405.out⟩, ⟨by (with_reducible repeat (first | apply Kd.R_alloc | apply Kd.R_drewN | apply Kd.R_drew)); exact HO408.out⟩, ⟨by (with_reducible repeat (first | apply Kd.R_alloc | apply Kd.R_drewN | apply Kd.R_drew)); exact HO412.out⟩, ⟨by (with_reducible repeat (first | apply Kd.R_alloc | apply Kd.R_drewN | apply Kd.R_drew)); exact HO415.out⟩, ⟨by (with_reducible repeat (first | apply Kd.R_alloc | apply Kd.R_drewN | apply Kd.R_drew)); exact HO418.out⟩, ⟨by (with_reducible repeat (first | refine blk_drewN ?_ _ | refine blk_drew ?_ | refine blk_alloc ?_ _)); exact BK397.out⟩, ⟨by (with_reducible repeat (first | refine blk_drewN ?_ _ | refine blk_drew ?_ | refine blk_alloc ?_ _)); exact BK419.out⟩, ⟨by (with_reducible repeat (first | refine blk_drewN ?_ _ | refine blk_drew ?_ | refine blk_alloc ?_ _)); exact BK420.out⟩, ⟨by repeat (first | (with_reducible first | exact HB.out | apply below_alloc | apply pw_below_drewN | apply below_drew1 | refine below_set ?_ GE397.out | refine below_set ?_ GE419.out | refine below_set ?_ GE420.out) | exact HB.out)⟩⟩
    case rest =>
      clear HC7
      try clear c2
      try clear p2
      try clear c3
      try clear c4
      try clear c23
      try clear c23b0
      try clear c26
      try clear c30
      try clear c30b0
      try clear c30b1
      try clear c40
      obtain ⟨kq, x36_6, rfl, HA, HJ6, HO_398001, HO_398002, HO_398003, HO_420001, HO_420002, HO_420003, HO_421001, HO_421002, HO_421003, BK397, BK419, BK420, HB⟩ := hcut
      cases kq with
      | zero => exact absurd HA.out (by simp [laws_FnChildren.j0])
      | succ kj6 =>
        have H := HA.out
        clear HA
        simp only [laws_FnChildren.j0] at H
        by_cases c41 : x36_6 = true
        · subst c41
          have H1 : (some false) = some r := by rw [if_pos rfl] at H; exact H
          clear H
          have H := H1
          clear H1
          obtain rfl := Option.some.inj H
          go_wp2
          go_ret
          exact ⟨by first | rfl | (simp [errW_none, errW_some] <;> rfl) | (simp [*, errW_none, errW_some] <;> rfl), by repeat (first | (with_reducible first | exact HB.out | apply below_alloc | apply pw_below_drewN | apply below_drew1 | refine below_set ?_ GE397.out | refine below_set ?_ GE419.out | refine below_set ?_ GE420.out) | exact HB.out)⟩
        · replace c41 := Bool.eq_false_iff.mpr c41
          subst c41
          have H1 : ((spec_NodeOk.f kj6 t386 t387 t390 t393).bind fun t424 => (if t424 = true then (if t398 = 0 then (if t398 = (t387.length : Int) then (some true) else (if 0 ≤ t398 then (if t398 < (t387.length : Int) then (some (Op.bytesLess t396.toList ((rdOf ByteArray.empty t387 t398).toList))) else (none)) else (none))) else (if 0 ≤ (wrap64 (t398 - 1)) then (if (wrap64 (t398 - 1)) < (t387.length : Int) then (if ((Op.bytesLess t396.toList ((rdOf ByteArray.empty t387 (wrap64 (t398 - 1))).toList)) = true) then (some false) else (if t398 = (t387.length : Int) then (some true) else (if 0 ≤ t398 then (if t398 < (t387.length : Int) then (some (Op.bytesLess t396.toList ((rdOf ByteArray.empty t387 t398).toList))) else (none)) else (none)))) else (none)) else (none))) else (if t398 ≥ 0 then (some (decide (t398 ≤ (t387.length : Int)))) else (some false)))) = some r := by rw [if_neg (show ¬ (false = true) by decide)] at H; exact H
          clear H
          have H := H1
          clear H1
          replace H := Option.bind_eq_some_iff.mp H
          obtain ⟨t424, A420, H⟩ := H
          replace H : (if t424 = true then (if t398 = 0 then (if t398 = (t387.length : Int) then (some true) else (if 0 ≤ t398 then (if t398 < (t387.length : Int) then (some (Op.bytesLess t396.toList ((rdOf ByteArray.empty t387 t398).toList))) else (none)) else (none))) else (if 0 ≤ (wrap64 (t398 - 1)) then (if (wrap64 (t398 - 1)) < (t387.length : Int) then (if ((Op.bytesLess t396.toList ((rdOf ByteArray.empty t387 (wrap64 (t398 - 1))).toList)) = true) then (some false) else (if t398 = (t387.length : Int) then (some true) else (if 0 ≤ t398 then (if t398 < (t387.length : Int) then (some (Op.bytesLess t396.toList ((rdOf ByteArray.empty t387 t398).toList))) else (none)) else (none)))) else (none)) else (none))) else (if t398 ≥ 0 then (some (decide (t398 ≤ (t387.length : Int)))) else (some false))) = some r := H
          have A42 := Aside0.mk A420
          clear A420
          by_cases c43 : t424 = true
          · subst c43
            have H1 : (if t398 = 0 then (if t398 = (t387.length : Int) then (some true) else (if 0 ≤ t398 then (if t398 < (t387.length : Int) then (some (Op.bytesLess t396.toList ((rdOf ByteArray.empty t387 t398).toList))) else (none)) else (none))) else (if 0 ≤ (wrap64 (t398 - 1)) then (if (wrap64 (t398 - 1)) < (t387.length : Int) then (if ((Op.bytesLess t396.toList ((rdOf ByteArray.empty t387 (wrap64 (t398 - 1))).toList)) = true) then (some false) else (if t398 = (t387.length : Int) then (some true) else (if 0 ≤ t398 then (if t398 < (t387.length : Int) then (some (Op.bytesLess t396.toList ((rdOf ByteArray.empty t387 t398).toList))) else (none)) else (none)))) else (none)) else (none))) = some r := by rw [if_pos rfl] at H; exact H
            clear H
            have H := H1
            clear H1
            by_cases c44 : t398 = 0
            · rw [if_pos c44] at H
              have c44b0 : (t398 == 0) = true := beq_iff_eq.mpr c44
              have c44b1 : (t398 != 0) = false := bne_eq_false_iff_eq.mpr c44
              clear c44
              by_cases c45 : t398 = (t387.length : Int)
              · rw [if_pos c45] at H
                have c45b0 : (t398 == (t387.length : Int)) = true := beq_iff_eq.mpr c45
                have c45b1 : (t398 != (t387.length : Int)) = false := bne_eq_false_iff_eq.mpr c45
                clear c45
                obtain rfl := Option.some.inj H
                have hnb46 := NB397_419.out
                have hnc46 := NB419_397.out
                have hnb47 := NB397_420.out
                have hnc47 := NB420_397.out
                have hcz48_0 : wc.cell? ⟨gb397, 0, none⟩ = some (.bool t386) := (blk_cell BK397.out 0).trans rfl
                have hcz48_1 : wc.cell? ⟨gb397, 1, none⟩ = some (.slice Ao11 t387.length co11) := (blk_cell BK397.out 1).trans rfl
                have hcz48_2 : wc.cell? ⟨gb397, 2, none⟩ = some (.slice Ao12 t390.length co12) := (blk_cell BK397.out 2).trans rfl
                have hcz48_3 : wc.cell? ⟨gb397, 3, none⟩ = some (.slice Ao13 t393.length co13) := (blk_cell BK397.out 3).trans rfl
                have hfz48_0 := blk_frozen BK397.out 0
                have hfz48_1 := blk_frozen BK397.out 1
                have hfz48_2 := blk_frozen BK397.out 2
                have hfz48_3 := blk_frozen BK397.out 3
                go_wp2_with (first | ((with_reducible refine gate_callee (f := 59) rfl ?_); refine goesL_ (some 38) rfl rfl Try.func59 (by kernel_rfl) rfl #[.agg #[.bool t386, .slice Ao11 t387.length co11, .slice Ao12 t390.length co12, .slice Ao13 t393.length co13]] rfl (by (try simp only [List.map_toArray, List.map_cons, List.map_nil]); first | done | rfl | (simp only [List.length_drop, List.length_take]; rfl)) ?_; (with_reducible refine (spec_NodeOk.calls kj6 t386 _ _ t387 _ _ t390 _ _ t393 true _ ?side1 ?side2 ?side3 ?side4 ?side5 ?side6 A42.out).mono ?_); (case side1 => repeat (first | exact (Kd.R_reads' HO_398001.out).2.2 | (with_reducible refine Kd.C_alloc ?_ _) | (with_reducible refine Kd.C_drewN ?_ _) | (with_reducible refine Kd.C_drew ?_))); (case side2 => exact (Kd.R_reads' HO_398001.out).2.1); (case side3 => repeat (first | exact (Kd.R_reads' HO_398002.out).2.2 | (with_reducible refine Kd.C_alloc ?_ _) | (with_reducible refine Kd.C_drewN ?_ _) | (with_reducible refine Kd.C_drew ?_))); (case side4 => exact (Kd.R_reads' HO_398002.out).2.1); (case side5 => repeat (first | exact (Kd.R_reads' HO_398003.out).2.2 | (with_reducible refine Kd.C_alloc ?_ _) | (with_reducible refine Kd.C_drewN ?_ _) | (with_reducible refine Kd.C_drew ?_))); (case side6 => exact (Kd.R_reads' HO_398003.out).2.1); rintro e w49 ⟨rfl, hb⟩; refine ⟨_, rfl, ?_⟩; have n0_ := Aside0.mk (Kd.R_below (by (with_reducible repeat (first | apply Kd.R_alloc | apply Kd.R_drewN | apply Kd.R_drew)); exact HO_398001.out) hb); have n1_ := Aside0.mk (Kd.R_below (by (with_reducible repeat (first | apply Kd.R_alloc | apply Kd.R_drewN | apply Kd.R_drew)); exact HO_398002.out) hb); have n2_ := Aside0.mk (Kd.R_below (by (with_reducible repeat (first | apply Kd.R_alloc | apply Kd.R_drewN | apply Kd.R_drew)); exact HO_398003.out) hb); have n3_ := Aside0.mk (Kd.R_below (by (with_reducible repeat (first | apply Kd.R_alloc | apply Kd.R_drewN | apply Kd.R_drew)); exact HO_420001.out) hb); have n4_ := Aside0.mk (Kd.R_below (by (with_reducible repeat (first | apply Kd.R_alloc | apply Kd.R_drewN | apply Kd.R_drew)); exact HO_420002.out) hb); have n5_ := Aside0.mk (Kd.R_below (by (with_reducible repeat (first | apply Kd.R_alloc | apply Kd.R_drewN | apply Kd.R_drew)); exact HO_420003.out) hb); have n6_ := Aside0.mk (Kd.R_below (by (with_reducible repeat (first | apply Kd.R_alloc | apply Kd.R_drewN | apply Kd.R_drew)); exact HO_421001.out) hb); have n7_ := Aside0.mk (Kd.R_below (by (with_reducible repeat (first | apply Kd.R_alloc | apply Kd.R_drewN | apply Kd.R_drew)); exact HO_421002.out) hb); have n8_ := Aside0.mk (Kd.R_below (by (with_reducible repeat (first | apply Kd.R_alloc | apply Kd.R_drewN | apply Kd.R_drew)); exact HO_421003.out) hb); have n9_ := Aside0.mk (blk_below (g := gb397) (o := .cells #[.bool t386, .slice Ao11 t387.length co11, .slice Ao12 t390.length co12, .slice Ao13 t393.length co13] 41 (0, 0)) (by (with_reducible repeat (first | refine blk_drewN ?_ _ | refine blk_drew ?_ | refine blk_alloc ?_ _)); exact BK397.out) hb); have n10_ := Aside0.mk (blk_below (g := gb419) (o := .cells #[.bool t399, .slice Ao21 t400.length co21, .slice Ao22 t403.length co22, .slice Ao23 t406.length co23] 41 (0, 0)) (by (with_reducible repeat (first | refine blk_drewN ?_ _ | refine blk_drew ?_ | refine blk_alloc ?_ _)); exact BK419.out) hb); have n11_ := Aside0.mk (blk_below (g := gb420) (o := .cells #[.bool t409, .slice Ao26 t410.length co26, .slice Ao27 t413.length co27, .slice Ao28 t416.length co28] 41 (0, 0)) (by (with_reducible repeat (first | refine blk_drewN ?_ _ | refine blk_drew ?_ | refine blk_alloc ?_ _)); exact BK420.out) hb); have n12_ := Aside0.mk (below_step (by repeat (first | (with_reducible first | exact HB.out | apply below_alloc | apply pw_below_drewN | apply below_drew1 | refine below_set ?_ GE397.out | refine below_set ?_ GE419.out | refine below_set ?_ GE420.out) | exact HB.out)) hb); clear HO_398001; clear HO_398002; clear HO_398003; clear HO_420001; clear HO_420002; clear HO_420003; clear HO_421001; clear HO_421002; clear HO_421003; clear BK397; clear BK419; clear BK420; clear HB; have HO_398001 := n0_; have HO_398002 := n1_; have HO_398003 := n2_; have HO_420001 := n3_; have HO_420002 := n4_; have HO_420003 := n5_; have HO_421001 := n6_; have HO_421002 := n7_; have HO_421003 := n8_; have BK397 := n9_; have BK419 := n10_; have BK420 := n11_; have HB := n12_; clear n0_ n1_ n2_ n3_ n4_ n5_ n6_ n7_ n8_ n9_ n10_ n11_ n12_; (try clear hb); (try clear hb2); (try clear hk); (try clear hi); have hcz50_0 : w49.cell? ⟨gb397, 0, none⟩ = some (.bool t386) := (blk_cell BK397.out 0).trans rfl; have hcz50_1 : w49.cell? ⟨gb397, 1, none⟩ = some (.slice Ao11 t387.length co11) := (blk_cell BK397.out 1).trans rfl; have hcz50_2 : w49.cell? ⟨gb397, 2, none⟩ = some (.slice Ao12 t390.length co12) := (blk_cell BK397.out 2).trans rfl; have hcz50_3 : w49.cell? ⟨gb397, 3, none⟩ = some (.slice Ao13 t393.length co13) := (blk_cell BK397.out 3).trans rfl; have hfz50_0 := blk_frozen BK397.out 0; have hfz50_1 := blk_frozen BK397.out 1; have hfz50_2 := blk_frozen BK397.out 2; have hfz50_3 := blk_frozen BK397.out 3))
                go_ret
                exact ⟨by first | rfl | (simp [errW_none, errW_some] <;> rfl) | (simp [*, errW_none, errW_some] <;> rfl), by repeat (first | (with_reducible first | exact HB.out | apply below_alloc | apply pw_below_drewN | apply below_drew1 | refine below_set ?_ GE397.out | refine below_set ?_ GE419.out | refine below_set ?_ GE420.out) | exact HB.out)⟩
              · rw [if_neg c45] at H
                have c45b0 : (t398 == (t387.length : Int)) = false := beq_eq_false_iff_ne.mpr c45
                have c45b1 : (t398 != (t387.length : Int)) = true := bne_iff_ne.mpr c45
                by_cases c51 : 0 ≤ t398
                · rw [if_pos c51] at H
                  have c51b0 : decide (0 ≤ t398) = true := decide_eq_true c51
                  clear c51
                  by_cases c52 : t398 < (t387.length : Int)
                  · rw [if_pos c52] at H
                    have c52b0 : decide (t398 < (t387.length : Int)) = true := decide_eq_true c52
                    clear c52
                    obtain rfl := Option.some.inj H
                    have hnb53 := NB397_419.out
                    have hnc53 := NB419_397.out
                    have hnb54 := NB397_420.out
                    have hnc54 := NB420_397.out
                    have hcz55_0 : wc.cell? ⟨gb397, 0, none⟩ = some (.bool t386) := (blk_cell BK397.out 0).trans rfl
                    have hcz55_1 : wc.cell? ⟨gb397, 1, none⟩ = some (.slice Ao11 t387.length co11) := (blk_cell BK397.out 1).trans rfl
                    have hcz55_2 : wc.cell? ⟨gb397, 2, none⟩ = some (.slice Ao12 t390.length co12) := (blk_cell BK397.out 2).trans rfl
                    have hcz55_3 : wc.cell? ⟨gb397, 3, none⟩ = some (.slice Ao13 t393.length co13) := (blk_cell BK397.out 3).trans rfl
                    have hfz55_0 := blk_frozen BK397.out 0
                    have hfz55_1 := blk_frozen BK397.out 1
                    have hfz55_2 := blk_frozen BK397.out 2
                    have hfz55_3 := blk_frozen BK397.out 3
                    go_wp2_with (first | ((with_reducible refine gate_callee (f := 59) rfl ?_); refine goesL_ (some 38) rfl rfl Try.func59 (by kernel_rfl) rfl #[.agg #[.bool t386, .slice Ao11 t387.length co11, .slice Ao12 t390.length co12, .slice Ao13 t393.length co13]] rfl (by (try simp only [List.map_toArray, List.map_cons, List.map_nil]); first | done | rfl | (simp only [List.length_drop, List.length_take]; rfl)) ?_; (with_reducible refine (spec_NodeOk.calls kj6 t386 _ _ t387 _ _ t390 _ _ t393 true _ ?side1 ?side2 ?side3 ?side4 ?side5 ?side6 A42.out).mono ?_); (case side1 => repeat (first | exact (Kd.R_reads' HO_398001.out).2.2 | (with_reducible refine Kd.C_alloc ?_ _) | (with_reducible refine Kd.C_drewN ?_ _) | (with_reducible refine Kd.C_drew ?_))); (case side2 => exact (Kd.R_reads' HO_398001.out).2.1); (case side3 => repeat (first | exact (Kd.R_reads' HO_398002.out).2.2 | (with_reducible refine Kd.C_alloc ?_ _) | (with_reducible refine Kd.C_drewN ?_ _) | (with_reducible refine Kd.C_drew ?_))); (case side4 => exact (Kd.R_reads' HO_398002.out).2.1); (case side5 => repeat (first | exact (Kd.R_reads' HO_398003.out).2.2 | (with_reducible refine Kd.C_alloc ?_ _) | (with_reducible refine Kd.C_drewN ?_ _) | (with_reducible refine Kd.C_drew ?_))); (case side6 => exact (Kd.R_reads' HO_398003.out).2.1); rintro e w56 ⟨rfl, hb⟩; refine ⟨_, rfl, ?_⟩; have n0_ := Aside0.mk (Kd.R_below (by (with_reducible repeat (first | apply Kd.R_alloc | apply Kd.R_drewN | apply Kd.R_drew)); exact HO_398001.out) hb); have n1_ := Aside0.mk (Kd.R_below (by (with_reducible repeat (first | apply Kd.R_alloc | apply Kd.R_drewN | apply Kd.R_drew)); exact HO_398002.out) hb); have n2_ := Aside0.mk (Kd.R_below (by (with_reducible repeat (first | apply Kd.R_alloc | apply Kd.R_drewN | apply Kd.R_drew)); exact HO_398003.out) hb); have n3_ := Aside0.mk (Kd.R_below (by (with_reducible repeat (first | apply Kd.R_alloc | apply Kd.R_drewN | apply Kd.R_drew)); exact HO_420001.out) hb); have n4_ := Aside0.mk (Kd.R_below (by (with_reducible repeat (first | apply Kd.R_alloc | apply Kd.R_drewN | apply Kd.R_drew)); exact HO_420002.out) hb); have n5_ := Aside0.mk (Kd.R_below (by (with_reducible repeat (first | apply Kd.R_alloc | apply Kd.R_drewN | apply Kd.R_drew)); exact HO_420003.out) hb); have n6_ := Aside0.mk (Kd.R_below (by (with_reducible repeat (first | apply Kd.R_alloc | apply Kd.R_drewN | apply Kd.R_drew)); exact HO_421001.out) hb); have n7_ := Aside0.mk (Kd.R_below (by (with_reducible repeat (first | apply Kd.R_alloc | apply Kd.R_drewN | apply Kd.R_drew)); exact HO_421002.out) hb); have n8_ := Aside0.mk (Kd.R_below (by (with_reducible repeat (first | apply Kd.R_alloc | apply Kd.R_drewN | apply Kd.R_drew)); exact HO_421003.out) hb); have n9_ := Aside0.mk (blk_below (g := gb397) (o := .cells #[.bool t386, .slice Ao11 t387.length co11, .slice Ao12 t390.length co12, .slice Ao13 t393.length co13] 41 (0, 0)) (by (with_reducible repeat (first | refine blk_drewN ?_ _ | refine blk_drew ?_ | refine blk_alloc ?_ _)); exact BK397.out) hb); have n10_ := Aside0.mk (blk_below (g := gb419) (o := .cells #[.bool t399, .slice Ao21 t400.length co21, .slice Ao22 t403.length co22, .slice Ao23 t406.length co23] 41 (0, 0)) (by (with_reducible repeat (first | refine blk_drewN ?_ _ | refine blk_drew ?_ | refine blk_alloc ?_ _)); exact BK419.out) hb); have n11_ := Aside0.mk (blk_below (g := gb420) (o := .cells #[.bool t409, .slice Ao26 t410.length co26, .slice Ao27 t413.length co27, .slice Ao28 t416.length co28] 41 (0, 0)) (by (with_reducible repeat (first | refine blk_drewN ?_ _ | refine blk_drew ?_ | refine blk_alloc ?_ _)); exact BK420.out) hb); have n12_ := Aside0.mk (below_step (by repeat (first | (with_reducible first | exact HB.out | apply below_alloc | apply pw_below_drewN | apply below_drew1 | refine below_set ?_ GE397.out | refine below_set ?_ GE419.out | refine below_set ?_ GE420.out) | exact HB.out)) hb); clear HO_398001; clear HO_398002; clear HO_398003; clear HO_420001; clear HO_420002; clear HO_420003; clear HO_421001; clear HO_421002; clear HO_421003; clear BK397; clear BK419; clear BK420; clear HB; have HO_398001 := n0_; have HO_398002 := n1_; have HO_398003 := n2_; have HO_420001 := n3_; have HO_420002 := n4_; have HO_420003 := n5_; have HO_421001 := n6_; have HO_421002 := n7_; have HO_421003 := n8_; have BK397 := n9_; have BK419 := n10_; have BK420 := n11_; have HB := n12_; clear n0_ n1_ n2_ n3_ n4_ n5_ n6_ n7_ n8_ n9_ n10_ n11_ n12_; (try clear hb); (try clear hb2); (try clear hk); (try clear hi); have hcz57_0 : w56.cell? ⟨gb397, 0, none⟩ = some (.bool t386) := (blk_cell BK397.out 0).trans rfl; have hcz57_1 : w56.cell? ⟨gb397, 1, none⟩ = some (.slice Ao11 t387.length co11) := (blk_cell BK397.out 1).trans rfl; have hcz57_2 : w56.cell? ⟨gb397, 2, none⟩ = some (.slice Ao12 t390.length co12) := (blk_cell BK397.out 2).trans rfl; have hcz57_3 : w56.cell? ⟨gb397, 3, none⟩ = some (.slice Ao13 t393.length co13) := (blk_cell BK397.out 3).trans rfl; have hfz57_0 := blk_frozen BK397.out 0; have hfz57_1 := blk_frozen BK397.out 1; have hfz57_2 := blk_frozen BK397.out 2; have hfz57_3 := blk_frozen BK397.out 3; have p425 : 0 ≤ (t398 : Int) := of_decide_eq_true (by first | (with_reducible assumption) | assumption); have q425 : t398 < (t387.length : Int) := of_decide_eq_true (by first | (with_reducible assumption) | assumption); obtain ⟨ad425, e425, hx425_0⟩ := Kd.at_string (Kd.R_reads' HO_398001.out).2.2 t398 p425 q425; cases e425; replace p425 := eq_true p425; replace q425 := eq_true q425))
                    go_ret
                    exact ⟨by first | rfl | (simp [errW_none, errW_some] <;> rfl) | (simp [*, errW_none, errW_some] <;> rfl), by repeat (first | (with_reducible first | exact HB.out | apply below_alloc | apply pw_below_drewN | apply below_drew1 | refine below_set ?_ GE397.out | refine below_set ?_ GE419.out | refine below_set ?_ GE420.out) | exact HB.out)⟩
                  · rw [if_neg c52] at H
                    exact absurd H (by simp)
                · rw [if_neg c51] at H
                  exact absurd H (by simp)
            · rw [if_neg c44] at H
              have c44b0 : (t398 == 0) = false := beq_eq_false_iff_ne.mpr c44
              have c44b1 : (t398 != 0) = true := bne_iff_ne.mpr c44
              obtain ⟨ji58, hji58⟩ : ∃ j_ : Int, (wrap64 (t398 - 1)) = j_ := ⟨_, rfl⟩
              replace H : (if 0 ≤ (ji58) then (if (ji58) < (t387.length : Int) then (if ((Op.bytesLess t396.toList ((rdOf ByteArray.empty t387 (ji58)).toList)) = true) then (some false) else (if t398 = (t387.length : Int) then (some true) else (if 0 ≤ t398 then (if t398 < (t387.length : Int) then (some (Op.bytesLess t396.toList ((rdOf ByteArray.empty t387 t398).toList))) else (none)) else (none)))) else (none)) else (none)) = some r := by first | (rw [hji58] at H; exact H) | (simp only [hji58] at H ⊢; exact H)
              (try rw [hji58] at A42)
              have hji58w : (IntKind.i64.wrap (t398 - 1)) = ji58 := (i64_w _).trans hji58
              by_cases c59 : 0 ≤ (ji58)
              · rw [if_pos c59] at H
                have c59b0 : decide (0 ≤ (ji58)) = true := decide_eq_true c59
                clear c59
                by_cases c60 : (ji58) < (t387.length : Int)
                · rw [if_pos c60] at H
                  have c60b0 : decide ((ji58) < (t387.length : Int)) = true := decide_eq_true c60
                  clear c60
                  by_cases c61 : ((Op.bytesLess t396.toList ((rdOf ByteArray.empty t387 (ji58)).toList)) = true)
                  · rw [if_pos c61] at H
                    have c61b0 : (Op.bytesLess t396.toList ((rdOf ByteArray.empty t387 (ji58)).toList)) = true := c61
                    clear c61
                    obtain rfl := Option.some.inj H
                    have hnb62 := NB397_419.out
                    have hnc62 := NB419_397.out
                    have hnb63 := NB397_420.out
                    have hnc63 := NB420_397.out
                    have hcz64_0 : wc.cell? ⟨gb397, 0, none⟩ = some (.bool t386) := (blk_cell BK397.out 0).trans rfl
                    have hcz64_1 : wc.cell? ⟨gb397, 1, none⟩ = some (.slice Ao11 t387.length co11) := (blk_cell BK397.out 1).trans rfl
                    have hcz64_2 : wc.cell? ⟨gb397, 2, none⟩ = some (.slice Ao12 t390.length co12) := (blk_cell BK397.out 2).trans rfl
                    have hcz64_3 : wc.cell? ⟨gb397, 3, none⟩ = some (.slice Ao13 t393.length co13) := (blk_cell BK397.out 3).trans rfl
                    have hfz64_0 := blk_frozen BK397.out 0
                    have hfz64_1 := blk_frozen BK397.out 1
                    have hfz64_2 := blk_frozen BK397.out 2
                    have hfz64_3 := blk_frozen BK397.out 3
                    go_wp2_with (first | ((with_reducible refine gate_callee (f := 59) rfl ?_); refine goesL_ (some 38) rfl rfl Try.func59 (by kernel_rfl) rfl #[.agg #[.bool t386, .slice Ao11 t387.length co11, .slice Ao12 t390.length co12, .slice Ao13 t393.length co13]] rfl (by (try simp only [List.map_toArray, List.map_cons, List.map_nil]); first | done | rfl | (simp only [List.length_drop, List.length_take]; rfl)) ?_; (with_reducible refine (spec_NodeOk.calls kj6 t386 _ _ t387 _ _ t390 _ _ t393 true _ ?side1 ?side2 ?side3 ?side4 ?side5 ?side6 A42.out).mono ?_); (case side1 => repeat (first | exact (Kd.R_reads' HO_398001.out).2.2 | (with_reducible refine Kd.C_alloc ?_ _) | (with_reducible refine Kd.C_drewN ?_ _) | (with_reducible refine Kd.C_drew ?_))); (case side2 => exact (Kd.R_reads' HO_398001.out).2.1); (case side3 => repeat (first | exact (Kd.R_reads' HO_398002.out).2.2 | (with_reducible refine Kd.C_alloc ?_ _) | (with_reducible refine Kd.C_drewN ?_ _) | (with_reducible refine Kd.C_drew ?_))); (case side4 => exact (Kd.R_reads' HO_398002.out).2.1); (case side5 => repeat (first | exact (Kd.R_reads' HO_398003.out).2.2 | (with_reducible refine Kd.C_alloc ?_ _) | (with_reducible refine Kd.C_drewN ?_ _) | (with_reducible refine Kd.C_drew ?_))); (case side6 => exact (Kd.R_reads' HO_398003.out).2.1); rintro e w65 ⟨rfl, hb⟩; refine ⟨_, rfl, ?_⟩; have n0_ := Aside0.mk (Kd.R_below (by (with_reducible repeat (first | apply Kd.R_alloc | apply Kd.R_drewN | apply Kd.R_drew)); exact HO_398001.out) hb); have n1_ := Aside0.mk (Kd.R_below (by (with_reducible repeat (first | apply Kd.R_alloc | apply Kd.R_drewN | apply Kd.R_drew)); exact HO_398002.out) hb); have n2_ := Aside0.mk (Kd.R_below (by (with_reducible repeat (first | apply Kd.R_alloc | apply Kd.R_drewN | apply Kd.R_drew)); exact HO_398003.out) hb); have n3_ := Aside0.mk (Kd.R_below (by (with_reducible repeat (first | apply Kd.R_alloc | apply Kd.R_drewN | apply Kd.R_drew)); exact HO_420001.out) hb); have n4_ := Aside0.mk (Kd.R_below (by (with_reducible repeat (first | apply Kd.R_alloc | apply Kd.R_drewN | apply Kd.R_drew)); exact HO_420002.out) hb); have n5_ := Aside0.mk (Kd.R_below (by (with_reducible repeat (first | apply Kd.R_alloc | apply Kd.R_drewN | apply Kd.R_drew)); exact HO_420003.out) hb); have n6_ := Aside0.mk (Kd.R_below (by (with_reducible repeat (first | apply Kd.R_alloc | apply Kd.R_drewN | apply Kd.R_drew)); exact HO_421001.out) hb); have n7_ := Aside0.mk (Kd.R_below (by (with_reducible repeat (first | apply Kd.R_alloc | apply Kd.R_drewN | apply Kd.R_drew)); exact HO_421002.out) hb); have n8_ := Aside0.mk (Kd.R_below (by (with_reducible repeat (first | apply Kd.R_alloc | apply Kd.R_drewN | apply Kd.R_drew)); exact HO_421003.out) hb); have n9_ := Aside0.mk (blk_below (g := gb397) (o := .cells #[.bool t386, .slice Ao11 t387.length co11, .slice Ao12 t390.length co12, .slice Ao13 t393.length co13] 41 (0, 0)) (by (with_reducible repeat (first | refine blk_drewN ?_ _ | refine blk_drew ?_ | refine blk_alloc ?_ _)); exact BK397.out) hb); have n10_ := Aside0.mk (blk_below (g := gb419) (o := .cells #[.bool t399, .slice Ao21 t400.length co21, .slice Ao22 t403.length co22, .slice Ao23 t406.length co23] 41 (0, 0)) (by (with_reducible repeat (first | refine blk_drewN ?_ _ | refine blk_drew ?_ | refine blk_alloc ?_ _)); exact BK419.out) hb); have n11_ := Aside0.mk (blk_below (g := gb420) (o := .cells #[.bool t409, .slice Ao26 t410.length co26, .slice Ao27 t413.length co27, .slice Ao28 t416.length co28] 41 (0, 0)) (by (with_reducible repeat (first | refine blk_drewN ?_ _ | refine blk_drew ?_ | refine blk_alloc ?_ _)); exact BK420.out) hb); have n12_ := Aside0.mk (below_step (by repeat (first | (with_reducible first | exact HB.out | apply below_alloc | apply pw_below_drewN | apply below_drew1 | refine below_set ?_ GE397.out | refine below_set ?_ GE419.out | refine below_set ?_ GE420.out) | exact HB.out)) hb); clear HO_398001; clear HO_398002; clear HO_398003; clear HO_420001; clear HO_420002; clear HO_420003; clear HO_421001; clear HO_421002; clear HO_421003; clear BK397; clear BK419; clear BK420; clear HB; have HO_398001 := n0_; have HO_398002 := n1_; have HO_398003 := n2_; have HO_420001 := n3_; have HO_420002 := n4_; have HO_420003 := n5_; have HO_421001 := n6_; have HO_421002 := n7_; have HO_421003 := n8_; have BK397 := n9_; have BK419 := n10_; have BK420 := n11_; have HB := n12_; clear n0_ n1_ n2_ n3_ n4_ n5_ n6_ n7_ n8_ n9_ n10_ n11_ n12_; (try clear hb); (try clear hb2); (try clear hk); (try clear hi); have hcz66_0 : w65.cell? ⟨gb397, 0, none⟩ = some (.bool t386) := (blk_cell BK397.out 0).trans rfl; have hcz66_1 : w65.cell? ⟨gb397, 1, none⟩ = some (.slice Ao11 t387.length co11) := (blk_cell BK397.out 1).trans rfl; have hcz66_2 : w65.cell? ⟨gb397, 2, none⟩ = some (.slice Ao12 t390.length co12) := (blk_cell BK397.out 2).trans rfl; have hcz66_3 : w65.cell? ⟨gb397, 3, none⟩ = some (.slice Ao13 t393.length co13) := (blk_cell BK397.out 3).trans rfl; have hfz66_0 := blk_frozen BK397.out 0; have hfz66_1 := blk_frozen BK397.out 1; have hfz66_2 := blk_frozen BK397.out 2; have hfz66_3 := blk_frozen BK397.out 3; have p426 : 0 ≤ ((ji58) : Int) := of_decide_eq_true (by first | (with_reducible assumption) | assumption); have q426 : (ji58) < (t387.length : Int) := of_decide_eq_true (by first | (with_reducible assumption) | assumption); obtain ⟨ad426, e426, hx426_0⟩ := Kd.at_string (Kd.R_reads' HO_398001.out).2.2 (ji58) p426 q426; cases e426; replace p426 := eq_true p426; replace q426 := eq_true q426))
                    go_ret
                    exact ⟨by first | rfl | (simp [errW_none, errW_some] <;> rfl) | (simp only [← hji58]; first | rfl | (simp [errW_none, errW_some] <;> rfl)) | (simp [*, errW_none, errW_some] <;> rfl), by repeat (first | (with_reducible first | exact HB.out | apply below_alloc | apply pw_below_drewN | apply below_drew1 | refine below_set ?_ GE397.out | refine below_set ?_ GE419.out | refine below_set ?_ GE420.out) | exact HB.out)⟩
                  · rw [if_neg c61] at H
                    have c61b0 : (Op.bytesLess t396.toList ((rdOf ByteArray.empty t387 (ji58)).toList)) = false := by simpa using c61
                    clear c61
                    by_cases c67 : t398 = (t387.length : Int)
                    · rw [if_pos c67] at H
                      have c67b0 : (t398 == (t387.length : Int)) = true := beq_iff_eq.mpr c67
                      have c67b1 : (t398 != (t387.length : Int)) = false := bne_eq_false_iff_eq.mpr c67
                      clear c67
                      obtain rfl := Option.some.inj H
                      have hnb68 := NB397_419.out
                      have hnc68 := NB419_397.out
                      have hnb69 := NB397_420.out
                      have hnc69 := NB420_397.out
                      have hcz70_0 : wc.cell? ⟨gb397, 0, none⟩ = some (.bool t386) := (blk_cell BK397.out 0).trans rfl
                      have hcz70_1 : wc.cell? ⟨gb397, 1, none⟩ = some (.slice Ao11 t387.length co11) := (blk_cell BK397.out 1).trans rfl
                      have hcz70_2 : wc.cell? ⟨gb397, 2, none⟩ = some (.slice Ao12 t390.length co12) := (blk_cell BK397.out 2).trans rfl
                      have hcz70_3 : wc.cell? ⟨gb397, 3, none⟩ = some (.slice Ao13 t393.length co13) := (blk_cell BK397.out 3).trans rfl
                      have hfz70_0 := blk_frozen BK397.out 0
                      have hfz70_1 := blk_frozen BK397.out 1
                      have hfz70_2 := blk_frozen BK397.out 2
                      have hfz70_3 := blk_frozen BK397.out 3
                      go_wp2_with (first | ((with_reducible refine gate_callee (f := 59) rfl ?_); refine goesL_ (some 38) rfl rfl Try.func59 (by kernel_rfl) rfl #[.agg #[.bool t386, .slice Ao11 t387.length co11, .slice Ao12 t390.length co12, .slice Ao13 t393.length co13]] rfl (by (try simp only [List.map_toArray, List.map_cons, List.map_nil]); first | done | rfl | (simp only [List.length_drop, List.length_take]; rfl)) ?_; (with_reducible refine (spec_NodeOk.calls kj6 t386 _ _ t387 _ _ t390 _ _ t393 true _ ?side1 ?side2 ?side3 ?side4 ?side5 ?side6 A42.out).mono ?_); (case side1 => repeat (first | exact (Kd.R_reads' HO_398001.out).2.2 | (with_reducible refine Kd.C_alloc ?_ _) | (with_reducible refine Kd.C_drewN ?_ _) | (with_reducible refine Kd.C_drew ?_))); (case side2 => exact (Kd.R_reads' HO_398001.out).2.1); (case side3 => repeat (first | exact (Kd.R_reads' HO_398002.out).2.2 | (with_reducible refine Kd.C_alloc ?_ _) | (with_reducible refine Kd.C_drewN ?_ _) | (with_reducible refine Kd.C_drew ?_))); (case side4 => exact (Kd.R_reads' HO_398002.out).2.1); (case side5 => repeat (first | exact (Kd.R_reads' HO_398003.out).2.2 | (with_reducible refine Kd.C_alloc ?_ _) | (with_reducible refine Kd.C_drewN ?_ _) | (with_reducible refine Kd.C_drew ?_))); (case side6 => exact (Kd.R_reads' HO_398003.out).2.1); rintro e w71 ⟨rfl, hb⟩; refine ⟨_, rfl, ?_⟩; have n0_ := Aside0.mk (Kd.R_below (by (with_reducible repeat (first | apply Kd.R_alloc | apply Kd.R_drewN | apply Kd.R_drew)); exact HO_398001.out) hb); have n1_ := Aside0.mk (Kd.R_below (by (with_reducible repeat (first | apply Kd.R_alloc | apply Kd.R_drewN | apply Kd.R_drew)); exact HO_398002.out) hb); have n2_ := Aside0.mk (Kd.R_below (by (with_reducible repeat (first | apply Kd.R_alloc | apply Kd.R_drewN | apply Kd.R_drew)); exact HO_398003.out) hb); have n3_ := Aside0.mk (Kd.R_below (by (with_reducible repeat (first | apply Kd.R_alloc | apply Kd.R_drewN | apply Kd.R_drew)); exact HO_420001.out) hb); have n4_ := Aside0.mk (Kd.R_below (by (with_reducible repeat (first | apply Kd.R_alloc | apply Kd.R_drewN | apply Kd.R_drew)); exact HO_420002.out) hb); have n5_ := Aside0.mk (Kd.R_below (by (with_reducible repeat (first | apply Kd.R_alloc | apply Kd.R_drewN | apply Kd.R_drew)); exact HO_420003.out) hb); have n6_ := Aside0.mk (Kd.R_below (by (with_reducible repeat (first | apply Kd.R_alloc | apply Kd.R_drewN | apply Kd.R_drew)); exact HO_421001.out) hb); have n7_ := Aside0.mk (Kd.R_below (by (with_reducible repeat (first | apply Kd.R_alloc | apply Kd.R_drewN | apply Kd.R_drew)); exact HO_421002.out) hb); have n8_ := Aside0.mk (Kd.R_below (by (with_reducible repeat (first | apply Kd.R_alloc | apply Kd.R_drewN | apply Kd.R_drew)); exact HO_421003.out) hb); have n9_ := Aside0.mk (blk_below (g := gb397) (o := .cells #[.bool t386, .slice Ao11 t387.length co11, .slice Ao12 t390.length co12, .slice Ao13 t393.length co13] 41 (0, 0)) (by (with_reducible repeat (first | refine blk_drewN ?_ _ | refine blk_drew ?_ | refine blk_alloc ?_ _)); exact BK397.out) hb); have n10_ := Aside0.mk (blk_below (g := gb419) (o := .cells #[.bool t399, .slice Ao21 t400.length co21, .slice Ao22 t403.length co22, .slice Ao23 t406.length co23] 41 (0, 0)) (by (with_reducible repeat (first | refine blk_drewN ?_ _ | refine blk_drew ?_ | refine blk_alloc ?_ _)); exact BK419.out) hb); have n11_ := Aside0.mk (blk_below (g := gb420) (o := .cells #[.bool t409, .slice Ao26 t410.length co26, .slice Ao27 t413.length co27, .slice Ao28 t416.length co28] 41 (0, 0)) (by (with_reducible repeat (first | refine blk_drewN ?_ _ | refine blk_drew ?_ | refine blk_alloc ?_ _)); exact BK420.out) hb); have n12_ := Aside0.mk (below_step (by repeat (first | (with_reducible first | exact HB.out | apply below_alloc | apply pw_below_drewN | apply below_drew1 | refine below_set ?_ GE397.out | refine below_set ?_ GE419.out | refine below_set ?_ GE420.out) | exact HB.out)) hb); clear HO_398001; clear HO_398002; clear HO_398003; clear HO_420001; clear HO_420002; clear HO_420003; clear HO_421001; clear HO_421002; clear HO_421003; clear BK397; clear BK419; clear BK420; clear HB; have HO_398001 := n0_; have HO_398002 := n1_; have HO_398003 := n2_; have HO_420001 := n3_; have HO_420002 := n4_; have HO_420003 := n5_; have HO_421001 := n6_; have HO_421002 := n7_; have HO_421003 := n8_; have BK397 := n9_; have BK419 := n10_; have BK420 := n11_; have HB := n12_; clear n0_ n1_ n2_ n3_ n4_ n5_ n6_ n7_ n8_ n9_ n10_ n11_ n12_; (try clear hb); (try clear hb2); (try clear hk); (try clear hi); have hcz72_0 : w71.cell? ⟨gb397, 0, none⟩ = some (.bool t386) := (blk_cell BK397.out 0).trans rfl; have hcz72_1 : w71.cell? ⟨gb397, 1, none⟩ = some (.slice Ao11 t387.length co11) := (blk_cell BK397.out 1).trans rfl; have hcz72_2 : w71.cell? ⟨gb397, 2, none⟩ = some (.slice Ao12 t390.length co12) := (blk_cell BK397.out 2).trans rfl; have hcz72_3 : w71.cell? ⟨gb397, 3, none⟩ = some (.slice Ao13 t393.length co13) := (blk_cell BK397.out 3).trans rfl; have hfz72_0 := blk_frozen BK397.out 0; have hfz72_1 := blk_frozen BK397.out 1; have hfz72_2 := blk_frozen BK397.out 2; have hfz72_3 := blk_frozen BK397.out 3; have p426 : 0 ≤ ((ji58) : Int) := of_decide_eq_true (by first | (with_reducible assumption) | assumption); have q426 : (ji58) < (t387.length : Int) := of_decide_eq_true (by first | (with_reducible assumption) | assumption); obtain ⟨ad426, e426, hx426_0⟩ := Kd.at_string (Kd.R_reads' HO_398001.out).2.2 (ji58) p426 q426; cases e426; replace p426 := eq_true p426; replace q426 := eq_true q426))
                      go_ret
                      exact ⟨by first | rfl | (simp [errW_none, errW_some] <;> rfl) | (simp only [← hji58]; first | rfl | (simp [errW_none, errW_some] <;> rfl)) | (simp [*, errW_none, errW_some] <;> rfl), by repeat (first | (with_reducible first | exact HB.out | apply below_alloc | apply pw_below_drewN | apply below_drew1 | refine below_set ?_ GE397.out | refine below_set ?_ GE419.out | refine below_set ?_ GE420.out) | exact HB.out)⟩
                    · rw [if_neg c67] at H
                      have c67b0 : (t398 == (t387.length : Int)) = false := beq_eq_false_iff_ne.mpr c67
                      have c67b1 : (t398 != (t387.length : Int)) = true := bne_iff_ne.mpr c67
                      by_cases c73 : 0 ≤ t398
                      · rw [if_pos c73] at H
                        have c73b0 : decide (0 ≤ t398) = true := decide_eq_true c73
                        clear c73
                        by_cases c74 : t398 < (t387.length : Int)
                        · rw [if_pos c74] at H
                          have c74b0 : decide (t398 < (t387.length : Int)) = true := decide_eq_true c74
                          clear c74
                          obtain rfl := Option.some.inj H
                          have hnb75 := NB397_419.out
                          have hnc75 := NB419_397.out
                          have hnb76 := NB397_420.out
                          have hnc76 := NB420_397.out
                          have hcz77_0 : wc.cell? ⟨gb397, 0, none⟩ = some (.bool t386) := (blk_cell BK397.out 0).trans rfl
                          have hcz77_1 : wc.cell? ⟨gb397, 1, none⟩ = some (.slice Ao11 t387.length co11) := (blk_cell BK397.out 1).trans rfl
                          have hcz77_2 : wc.cell? ⟨gb397, 2, none⟩ = some (.slice Ao12 t390.length co12) := (blk_cell BK397.out 2).trans rfl
                          have hcz77_3 : wc.cell? ⟨gb397, 3, none⟩ = some (.slice Ao13 t393.length co13) := (blk_cell BK397.out 3).trans rfl
                          have hfz77_0 := blk_frozen BK397.out 0
                          have hfz77_1 := blk_frozen BK397.out 1
                          have hfz77_2 := blk_frozen BK397.out 2
                          have hfz77_3 := blk_frozen BK397.out 3
                          go_wp2_with (first | ((with_reducible refine gate_callee (f := 59) rfl ?_); refine goesL_ (some 38) rfl rfl Try.func59 (by kernel_rfl) rfl #[.agg #[.bool t386, .slice Ao11 t387.length co11, .slice Ao12 t390.length co12, .slice Ao13 t393.length co13]] rfl (by (try simp only [List.map_toArray, List.map_cons, List.map_nil]); first | done | rfl | (simp only [List.length_drop, List.length_take]; rfl)) ?_; (with_reducible refine (spec_NodeOk.calls kj6 t386 _ _ t387 _ _ t390 _ _ t393 true _ ?side1 ?side2 ?side3 ?side4 ?side5 ?side6 A42.out).mono ?_); (case side1 => repeat (first | exact (Kd.R_reads' HO_398001.out).2.2 | (with_reducible refine Kd.C_alloc ?_ _) | (with_reducible refine Kd.C_drewN ?_ _) | (with_reducible refine Kd.C_drew ?_))); (case side2 => exact (Kd.R_reads' HO_398001.out).2.1); (case side3 => repeat (first | exact (Kd.R_reads' HO_398002.out).2.2 | (with_reducible refine Kd.C_alloc ?_ _) | (with_reducible refine Kd.C_drewN ?_ _) | (with_reducible refine Kd.C_drew ?_))); (case side4 => exact (Kd.R_reads' HO_398002.out).2.1); (case side5 => repeat (first | exact (Kd.R_reads' HO_398003.out).2.2 | (with_reducible refine Kd.C_alloc ?_ _) | (with_reducible refine Kd.C_drewN ?_ _) | (with_reducible refine Kd.C_drew ?_))); (case side6 => exact (Kd.R_reads' HO_398003.out).2.1); rintro e w78 ⟨rfl, hb⟩; refine ⟨_, rfl, ?_⟩; have n0_ := Aside0.mk (Kd.R_below (by (with_reducible repeat (first | apply Kd.R_alloc | apply Kd.R_drewN | apply Kd.R_drew)); exact HO_398001.out) hb); have n1_ := Aside0.mk (Kd.R_below (by (with_reducible repeat (first | apply Kd.R_alloc | apply Kd.R_drewN | apply Kd.R_drew)); exact HO_398002.out) hb); have n2_ := Aside0.mk (Kd.R_below (by (with_reducible repeat (first | apply Kd.R_alloc | apply Kd.R_drewN | apply Kd.R_drew)); exact HO_398003.out) hb); have n3_ := Aside0.mk (Kd.R_below (by (with_reducible repeat (first | apply Kd.R_alloc | apply Kd.R_drewN | apply Kd.R_drew)); exact HO_420001.out) hb); have n4_ := Aside0.mk (Kd.R_below (by (with_reducible repeat (first | apply Kd.R_alloc | apply Kd.R_drewN | apply Kd.R_drew)); exact HO_420002.out) hb); have n5_ := Aside0.mk (Kd.R_below (by (with_reducible repeat (first | apply Kd.R_alloc | apply Kd.R_drewN | apply Kd.R_drew)); exact HO_420003.out) hb); have n6_ := Aside0.mk (Kd.R_below (by (with_reducible repeat (first | apply Kd.R_alloc | apply Kd.R_drewN | apply Kd.R_drew)); exact HO_421001.out) hb); have n7_ := Aside0.mk (Kd.R_below (by (with_reducible repeat (first | apply Kd.R_alloc | apply Kd.R_drewN | apply Kd.R_drew)); exact HO_421002.out) hb); have n8_ := Aside0.mk (Kd.R_below (by (with_reducible repeat (first | apply Kd.R_alloc | apply Kd.R_drewN | apply Kd.R_drew)); exact HO_421003.out) hb); have n9_ := Aside0.mk (blk_below (g := gb397) (o := .cells #[.bool t386, .slice Ao11 t387.length co11, .slice Ao12 t390.length co12, .slice Ao13 t393.length co13] 41 (0, 0)) (by (with_reducible repeat (first | refine blk_drewN ?_ _ | refine blk_drew ?_ | refine blk_alloc ?_ _)); exact BK397.out) hb); have n10_ := Aside0.mk (blk_below (g := gb419) (o := .cells #[.bool t399, .slice Ao21 t400.length co21, .slice Ao22 t403.length co22, .slice Ao23 t406.length co23] 41 (0, 0)) (by (with_reducible repeat (first | refine blk_drewN ?_ _ | refine blk_drew ?_ | refine blk_alloc ?_ _)); exact BK419.out) hb); have n11_ := Aside0.mk (blk_below (g := gb420) (o := .cells #[.bool t409, .slice Ao26 t410.length co26, .slice Ao27 t413.length co27, .slice Ao28 t416.length co28] 41 (0, 0)) (by (with_reducible repeat (first | refine blk_drewN ?_ _ | refine blk_drew ?_ | refine blk_alloc ?_ _)); exact BK420.out) hb); have n12_ := Aside0.mk (below_step (by repeat (first | (with_reducible first | exact HB.out | apply below_alloc | apply pw_below_drewN | apply below_drew1 | refine below_set ?_ GE397.out | refine below_set ?_ GE419.out | refine below_set ?_ GE420.out) | exact HB.out)) hb); clear HO_398001; clear HO_398002; clear HO_398003; clear HO_420001; clear HO_420002; clear HO_420003; clear HO_421001; clear HO_421002; clear HO_421003; clear BK397; clear BK419; clear BK420; clear HB; have HO_398001 := n0_; have HO_398002 := n1_; have HO_398003 := n2_; have HO_420001 := n3_; have HO_420002 := n4_; have HO_420003 := n5_; have HO_421001 := n6_; have HO_421002 := n7_; have HO_421003 := n8_; have BK397 := n9_; have BK419 := n10_; have BK420 := n11_; have HB := n12_; clear n0_ n1_ n2_ n3_ n4_ n5_ n6_ n7_ n8_ n9_ n10_ n11_ n12_; (try clear hb); (try clear hb2); (try clear hk); (try clear hi); have hcz79_0 : w78.cell? ⟨gb397, 0, none⟩ = some (.bool t386) := (blk_cell BK397.out 0).trans rfl; have hcz79_1 : w78.cell? ⟨gb397, 1, none⟩ = some (.slice Ao11 t387.length co11) := (blk_cell BK397.out 1).trans rfl; have hcz79_2 : w78.cell? ⟨gb397, 2, none⟩ = some (.slice Ao12 t390.length co12) := (blk_cell BK397.out 2).trans rfl; have hcz79_3 : w78.cell? ⟨gb397, 3, none⟩ = some (.slice Ao13 t393.length co13) := (blk_cell BK397.out 3).trans rfl; have hfz79_0 := blk_frozen BK397.out 0; have hfz79_1 := blk_frozen BK397.out 1; have hfz79_2 := blk_frozen BK397.out 2; have hfz79_3 := blk_frozen BK397.out 3; have p426 : 0 ≤ ((ji58) : Int) := of_decide_eq_true (by first | (with_reducible assumption) | assumption); have q426 : (ji58) < (t387.length : Int) := of_decide_eq_true (by first | (with_reducible assumption) | assumption); obtain ⟨ad426, e426, hx426_0⟩ := Kd.at_string (Kd.R_reads' HO_398001.out).2.2 (ji58) p426 q426; cases e426; replace p426 := eq_true p426; replace q426 := eq_true q426; have p427 : 0 ≤ (t398 : Int) := of_decide_eq_true (by first | (with_reducible assumption) | assumption); have q427 : t398 < (t387.length : Int) := of_decide_eq_true (by first | (with_reducible assumption) | assumption); obtain ⟨ad427, e427, hx427_0⟩ := Kd.at_string (Kd.R_reads' HO_398001.out).2.2 t398 p427 q427; obtain rfl : ad426 = ad427 := (by injection e427); replace p427 := eq_true p427; replace q427 := eq_true q427))
                          go_ret
                          exact ⟨by first | rfl | (simp [errW_none, errW_some] <;> rfl) | (simp only [← hji58]; first | rfl | (simp [errW_none, errW_some] <;> rfl)) | (simp [*, errW_none, errW_some] <;> rfl), by repeat (first | (with_reducible first | exact HB.out | apply below_alloc | apply pw_below_drewN | apply below_drew1 | refine below_set ?_ GE397.out | refine below_set ?_ GE419.out | refine below_set ?_ GE420.out) | exact HB.out)⟩
                        · rw [if_neg c74] at H
                          exact absurd H (by simp)
                      · rw [if_neg c73] at H
                        exact absurd H (by simp)
                · rw [if_neg c60] at H
                  exact absurd H (by simp)
              · rw [if_neg c59] at H
                exact absurd H (by simp)
          · replace c43 := Bool.eq_false_iff.mpr c43
            subst c43
            have H1 : (if t398 ≥ 0 then (some (decide (t398 ≤ (t387.length : Int)))) else (some false)) = some r := by rw [if_neg (show ¬ (false = true) by decide)] at H; exact H
            clear H
            have H := H1
            clear H1
            by_cases c80 : t398 ≥ 0
            · rw [if_pos c80] at H
              have c80b0 : decide (0 ≤ t398) = true := decide_eq_true c80
              clear c80
              obtain rfl := Option.some.inj H
              have hnb81 := NB397_419.out
              have hnc81 := NB419_397.out
              have hnb82 := NB397_420.out
              have hnc82 := NB420_397.out
              have hcz83_0 : wc.cell? ⟨gb397, 0, none⟩ = some (.bool t386) := (blk_cell BK397.out 0).trans rfl
              have hcz83_1 : wc.cell? ⟨gb397, 1, none⟩ = some (.slice Ao11 t387.length co11) := (blk_cell BK397.out 1).trans rfl
              have hcz83_2 : wc.cell? ⟨gb397, 2, none⟩ = some (.slice Ao12 t390.length co12) := (blk_cell BK397.out 2).trans rfl
              have hcz83_3 : wc.cell? ⟨gb397, 3, none⟩ = some (.slice Ao13 t393.length co13) := (blk_cell BK397.out 3).trans rfl
              have hfz83_0 := blk_frozen BK397.out 0
              have hfz83_1 := blk_frozen BK397.out 1
              have hfz83_2 := blk_frozen BK397.out 2
              have hfz83_3 := blk_frozen BK397.out 3
              go_wp2_with (first | ((with_reducible refine gate_callee (f := 59) rfl ?_); refine goesL_ (some 38) rfl rfl Try.func59 (by kernel_rfl) rfl #[.agg #[.bool t386, .slice Ao11 t387.length co11, .slice Ao12 t390.length co12, .slice Ao13 t393.length co13]] rfl (by (try simp only [List.map_toArray, List.map_cons, List.map_nil]); first | done | rfl | (simp only [List.length_drop, List.length_take]; rfl)) ?_; (with_reducible refine (spec_NodeOk.calls kj6 t386 _ _ t387 _ _ t390 _ _ t393 false _ ?side1 ?side2 ?side3 ?side4 ?side5 ?side6 A42.out).mono ?_); (case side1 => repeat (first | exact (Kd.R_reads' HO_398001.out).2.2 | (with_reducible refine Kd.C_alloc ?_ _) | (with_reducible refine Kd.C_drewN ?_ _) | (with_reducible refine Kd.C_drew ?_))); (case side2 => exact (Kd.R_reads' HO_398001.out).2.1); (case side3 => repeat (first | exact (Kd.R_reads' HO_398002.out).2.2 | (with_reducible refine Kd.C_alloc ?_ _) | (with_reducible refine Kd.C_drewN ?_ _) | (with_reducible refine Kd.C_drew ?_))); (case side4 => exact (Kd.R_reads' HO_398002.out).2.1); (case side5 => repeat (first | exact (Kd.R_reads' HO_398003.out).2.2 | (with_reducible refine Kd.C_alloc ?_ _) | (with_reducible refine Kd.C_drewN ?_ _) | (with_reducible refine Kd.C_drew ?_))); (case side6 => exact (Kd.R_reads' HO_398003.out).2.1); rintro e w84 ⟨rfl, hb⟩; refine ⟨_, rfl, ?_⟩; have n0_ := Aside0.mk (Kd.R_below (by (with_reducible repeat (first | apply Kd.R_alloc | apply Kd.R_drewN | apply Kd.R_drew)); exact HO_398001.out) hb); have n1_ := Aside0.mk (Kd.R_below (by (with_reducible repeat (first | apply Kd.R_alloc | apply Kd.R_drewN | apply Kd.R_drew)); exact HO_398002.out) hb); have n2_ := Aside0.mk (Kd.R_below (by (with_reducible repeat (first | apply Kd.R_alloc | apply Kd.R_drewN | apply Kd.R_drew)); exact HO_398003.out) hb); have n3_ := Aside0.mk (Kd.R_below (by (with_reducible repeat (first | apply Kd.R_alloc | apply Kd.R_drewN | apply Kd.R_drew)); exact HO_420001.out) hb); have n4_ := Aside0.mk (Kd.R_below (by (with_reducible repeat (first | apply Kd.R_alloc | apply Kd.R_drewN | apply Kd.R_drew)); exact HO_420002.out) hb); have n5_ := Aside0.mk (Kd.R_below (by (with_reducible repeat (first | apply Kd.R_alloc | apply Kd.R_drewN | apply Kd.R_drew)); exact HO_420003.out) hb); have n6_ := Aside0.mk (Kd.R_below (by (with_reducible repeat (first | apply Kd.R_alloc | apply Kd.R_drewN | apply Kd.R_drew)); exact HO_421001.out) hb); have n7_ := Aside0.mk (Kd.R_below (by (with_reducible repeat (first | apply Kd.R_alloc | apply Kd.R_drewN | apply Kd.R_drew)); exact HO_421002.out) hb); have n8_ := Aside0.mk (Kd.R_below (by (with_reducible repeat (first | apply Kd.R_alloc | apply Kd.R_drewN | apply Kd.R_drew)); exact HO_421003.out) hb); have n9_ := Aside0.mk (blk_below (g := gb397) (o := .cells #[.bool t386, .slice Ao11 t387.length co11, .slice Ao12 t390.length co12, .slice Ao13 t393.length co13] 41 (0, 0)) (by (with_reducible repeat (first | refine blk_drewN ?_ _ | refine blk_drew ?_ | refine blk_alloc ?_ _)); exact BK397.out) hb); have n10_ := Aside0.mk (blk_below (g := gb419) (o := .cells #[.bool t399, .slice Ao21 t400.length co21, .slice Ao22 t403.length co22, .slice Ao23 t406.length co23] 41 (0, 0)) (by (with_reducible repeat (first | refine blk_drewN ?_ _ | refine blk_drew ?_ | refine blk_alloc ?_ _)); exact BK419.out) hb); have n11_ := Aside0.mk (blk_below (g := gb420) (o := .cells #[.bool t409, .slice Ao26 t410.length co26, .slice Ao27 t413.length co27, .slice Ao28 t416.length co28] 41 (0, 0)) (by (with_reducible repeat (first | refine blk_drewN ?_ _ | refine blk_drew ?_ | refine blk_alloc ?_ _)); exact BK420.out) hb); have n12_ := Aside0.mk (below_step (by repeat (first | (with_reducible first | exact HB.out | apply below_alloc | apply pw_below_drewN | apply below_drew1 | refine below_set ?_ GE397.out | refine below_set ?_ GE419.out | refine below_set ?_ GE420.out) | exact HB.out)) hb); clear HO_398001; clear HO_398002; clear HO_398003; clear HO_420001; clear HO_420002; clear HO_420003; clear HO_421001; clear HO_421002; clear HO_421003; clear BK397; clear BK419; clear BK420; clear HB; have HO_398001 := n0_; have HO_398002 := n1_; have HO_398003 := n2_; have HO_420001 := n3_; have HO_420002 := n4_; have HO_420003 := n5_; have HO_421001 := n6_; have HO_421002 := n7_; have HO_421003 := n8_; have BK397 := n9_; have BK419 := n10_; have BK420 := n11_; have HB := n12_; clear n0_ n1_ n2_ n3_ n4_ n5_ n6_ n7_ n8_ n9_ n10_ n11_ n12_; (try clear hb); (try clear hb2); (try clear hk); (try clear hi); have hcz85_0 : w84.cell? ⟨gb397, 0, none⟩ = some (.bool t386) := (blk_cell BK397.out 0).trans rfl; have hcz85_1 : w84.cell? ⟨gb397, 1, none⟩ = some (.slice Ao11 t387.length co11) := (blk_cell BK397.out 1).trans rfl; have hcz85_2 : w84.cell? ⟨gb397, 2, none⟩ = some (.slice Ao12 t390.length co12) := (blk_cell BK397.out 2).trans rfl; have hcz85_3 : w84.cell? ⟨gb397, 3, none⟩ = some (.slice Ao13 t393.length co13) := (blk_cell BK397.out 3).trans rfl; have hfz85_0 := blk_frozen BK397.out 0; have hfz85_1 := blk_frozen BK397.out 1; have hfz85_2 := blk_frozen BK397.out 2; have hfz85_3 := blk_frozen BK397.out 3))
              go_ret
              exact ⟨by first | rfl | (simp [errW_none, errW_some] <;> rfl) | (simp [*, errW_none, errW_some] <;> rfl), by repeat (first | (with_reducible first | exact HB.out | apply below_alloc | apply pw_below_drewN | apply below_drew1 | refine below_set ?_ GE397.out | refine below_set ?_ GE419.out | refine below_set ?_ GE420.out) | exact HB.out)⟩
            · rw [if_neg c80] at H
              have c80b0 : decide (0 ≤ t398) = false := decide_eq_false c80
              clear c80
              obtain rfl := Option.some.inj H
              have hnb86 := NB397_419.out
              have hnc86 := NB419_397.out
              have hnb87 := NB397_420.out
              have hnc87 := NB420_397.out
              have hcz88_0 : wc.cell? ⟨gb397, 0, none⟩ = some (.bool t386) := (blk_cell BK397.out 0).trans rfl
              have hcz88_1 : wc.cell? ⟨gb397, 1, none⟩ = some (.slice Ao11 t387.length co11) := (blk_cell BK397.out 1).trans rfl
              have hcz88_2 : wc.cell? ⟨gb397, 2, none⟩ = some (.slice Ao12 t390.length co12) := (blk_cell BK397.out 2).trans rfl
              have hcz88_3 : wc.cell? ⟨gb397, 3, none⟩ = some (.slice Ao13 t393.length co13) := (blk_cell BK397.out 3).trans rfl
              have hfz88_0 := blk_frozen BK397.out 0
              have hfz88_1 := blk_frozen BK397.out 1
              have hfz88_2 := blk_frozen BK397.out 2
              have hfz88_3 := blk_frozen BK397.out 3
              go_wp2_with (first | ((with_reducible refine gate_callee (f := 59) rfl ?_); refine goesL_ (some 38) rfl rfl Try.func59 (by kernel_rfl) rfl #[.agg #[.bool t386, .slice Ao11 t387.length co11, .slice Ao12 t390.length co12, .slice Ao13 t393.length co13]] rfl (by (try simp only [List.map_toArray, List.map_cons, List.map_nil]); first | done | rfl | (simp only [List.length_drop, List.length_take]; rfl)) ?_; (with_reducible refine (spec_NodeOk.calls kj6 t386 _ _ t387 _ _ t390 _ _ t393 false _ ?side1 ?side2 ?side3 ?side4 ?side5 ?side6 A42.out).mono ?_); (case side1 => repeat (first | exact (Kd.R_reads' HO_398001.out).2.2 | (with_reducible refine Kd.C_alloc ?_ _) | (with_reducible refine Kd.C_drewN ?_ _) | (with_reducible refine Kd.C_drew ?_))); (case side2 => exact (Kd.R_reads' HO_398001.out).2.1); (case side3 => repeat (first | exact (Kd.R_reads' HO_398002.out).2.2 | (with_reducible refine Kd.C_alloc ?_ _) | (with_reducible refine Kd.C_drewN ?_ _) | (with_reducible refine Kd.C_drew ?_))); (case side4 => exact (Kd.R_reads' HO_398002.out).2.1); (case side5 => repeat (first | exact (Kd.R_reads' HO_398003.out).2.2 | (with_reducible refine Kd.C_alloc ?_ _) | (with_reducible refine Kd.C_drewN ?_ _) | (with_reducible refine Kd.C_drew ?_))); (case side6 => exact (Kd.R_reads' HO_398003.out).2.1); rintro e w89 ⟨rfl, hb⟩; refine ⟨_, rfl, ?_⟩; have n0_ := Aside0.mk (Kd.R_below (by (with_reducible repeat (first | apply Kd.R_alloc | apply Kd.R_drewN | apply Kd.R_drew)); exact HO_398001.out) hb); have n1_ := Aside0.mk (Kd.R_below (by (with_reducible repeat (first | apply Kd.R_alloc | apply Kd.R_drewN | apply Kd.R_drew)); exact HO_398002.out) hb); have n2_ := Aside0.mk (Kd.R_below (by (with_reducible repeat (first | apply Kd.R_alloc | apply Kd.R_drewN | apply Kd.R_drew)); exact HO_398003.out) hb); have n3_ := Aside0.mk (Kd.R_below (by (with_reducible repeat (first | apply Kd.R_alloc | apply Kd.R_drewN | apply Kd.R_drew)); exact HO_420001.out) hb); have n4_ := Aside0.mk (Kd.R_below (by (with_reducible repeat (first | apply Kd.R_alloc | apply Kd.R_drewN | apply Kd.R_drew)); exact HO_420002.out) hb); have n5_ := Aside0.mk (Kd.R_below (by (with_reducible repeat (first | apply Kd.R_alloc | apply Kd.R_drewN | apply Kd.R_drew)); exact HO_420003.out) hb); have n6_ := Aside0.mk (Kd.R_below (by (with_reducible repeat (first | apply Kd.R_alloc | apply Kd.R_drewN | apply Kd.R_drew)); exact HO_421001.out) hb); have n7_ := Aside0.mk (Kd.R_below (by (with_reducible repeat (first | apply Kd.R_alloc | apply Kd.R_drewN | apply Kd.R_drew)); exact HO_421002.out) hb); have n8_ := Aside0.mk (Kd.R_below (by (with_reducible repeat (first | apply Kd.R_alloc | apply Kd.R_drewN | apply Kd.R_drew)); exact HO_421003.out) hb); have n9_ := Aside0.mk (blk_below (g := gb397) (o := .cells #[.bool t386, .slice Ao11 t387.length co11, .slice Ao12 t390.length co12, .slice Ao13 t393.length co13] 41 (0, 0)) (by (with_reducible repeat (first | refine blk_drewN ?_ _ | refine blk_drew ?_ | refine blk_alloc ?_ _)); exact BK397.out) hb); have n10_ := Aside0.mk (blk_below (g := gb419) (o := .cells #[.bool t399, .slice Ao21 t400.length co21, .slice Ao22 t403.length co22, .slice Ao23 t406.length co23] 41 (0, 0)) (by (with_reducible repeat (first | refine blk_drewN ?_ _ | refine blk_drew ?_ | refine blk_alloc ?_ _)); exact BK419.out) hb); have n11_ := Aside0.mk (blk_below (g := gb420) (o := .cells #[.bool t409, .slice Ao26 t410.length co26, .slice Ao27 t413.length co27, .slice Ao28 t416.length co28] 41 (0, 0)) (by (with_reducible repeat (first | refine blk_drewN ?_ _ | refine blk_drew ?_ | refine blk_alloc ?_ _)); exact BK420.out) hb); have n12_ := Aside0.mk (below_step (by repeat (first | (with_reducible first | exact HB.out | apply below_alloc | apply pw_below_drewN | apply below_drew1 | refine below_set ?_ GE397.out | refine below_set ?_ GE419.out | refine below_set ?_ GE420.out) | exact HB.out)) hb); clear HO_398001; clear HO_398002; clear HO_398003; clear HO_420001; clear HO_420002; clear HO_420003; clear HO_421001; clear HO_421002; clear HO_421003; clear BK397; clear BK419; clear BK420; clear HB; have HO_398001 := n0_; have HO_398002 := n1_; have HO_398003 := n2_; have HO_420001 := n3_; have HO_420002 := n4_; have HO_420003 := n5_; have HO_421001 := n6_; have HO_421002 := n7_; have HO_421003 := n8_; have BK397 := n9_; have BK419 := n10_; have BK420 := n11_; have HB := n12_; clear n0_ n1_ n2_ n3_ n4_ n5_ n6_ n7_ n8_ n9_ n10_ n11_ n12_; (try clear hb); (try clear hb2); (try clear hk); (try clear hi)))
              go_ret
              exact ⟨by first | rfl | (simp [errW_none, errW_some] <;> rfl) | (simp [*, errW_none, errW_some] <;> rfl), by repeat (first | (with_reducible first | exact HB.out | apply below_alloc | apply pw_below_drewN | apply below_drew1 | refine below_set ?_ GE397.out | refine below_set ?_ GE419.out | refine below_set ?_ GE420.out) | exact HB.out)⟩

end Go.Proofs.Ythpiinnmmdaloaa.PFnChildren
