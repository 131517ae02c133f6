-- Written by a program of this session, which builds on the kit's print
import Derived.Test.YtllgmgpfdnofmaaZDQPFnExactDecodeRowx0
import Derived.Test.YtllgmgpfdnofmaaZDQPFnExactDecodeRowx9
import Derived.Test.YtllgmgpfdnofmaaZDQPFnExactDecodeRowx10
import Derived.Test.YtllgmgpfdnofmaaZDQPFnExactDecodeRowx11
namespace Go.Proofs.Ytllgmgpfdnofmaa.PFnExactDecodeRow
open Go.RowKit Go.Proofs.YtllgmgpfdnofmaaW.PrintWords Go.Proofs.YtllgmgpfdnofmaaW.PrintLast Go.Proofs.YtllgmgpfdnofmaaW.PrintMore Go.Proofs.Ytllgmgpfdnofmaa.Xtra
attribute [local go_sem] max2_int min2_int max_two min_two max_three min_three max_four min_four str_leq str_gtr str_geq setCell_drewN cell_set2 cell_set3   -- for this text's walks alone
set_option linter.unusedVariables false
set_option linter.unusedSimpArgs false

/-! ### spec_l7Val: function 118 -/
def spec_l7Val.j0 : Nat → List Int → Int → Bool → Bool → Int → Bool → Int → Int → ByteArray → Option (Int × Int × ByteArray × Int × Bool)
 | 0, _, _, _, _, _, _, _, _, _ => none
 | k + 1, x0, x8, x9, x11, x21, x22, x405000, x405001, x405002 => if x22 = true then ((spec_GetVar.f k x0 x8).bind fun bt405 => (if x9 = true then (some (x405000, bt405.1, x405002, bt405.2.1, bt405.2.2)) else (some (x405000, bt405.1, x405002, bt405.2.1, false)))) else (if x21 = 3 then ((spec_GetText.f k x0 x8).bind fun bt408 => (if x9 = true then (some (x405000, x405001, bt408.1, bt408.2.1, bt408.2.2)) else (some (x405000, x405001, bt408.1, bt408.2.1, false)))) else (if x21 = 4 then (if x8 < (x0.length : Int) then (if 0 ≤ x8 then (if x9 = true then (some (x405000, wrap64 (rd x0 x8), x405002, wrap64 (x8 + 1), decide (x8 < (x0.length : Int)))) else (some (x405000, wrap64 (rd x0 x8), x405002, wrap64 (x8 + 1), false))) else (none)) else (if x9 = true then (some (x405000, x405001, x405002, x8, decide (x8 < (x0.length : Int)))) else (some (x405000, x405001, x405002, x8, false)))) else (if x9 = true then (some (x405000, x405001, x405002, x8, x11)) else (some (x405000, x405001, x405002, x8, false)))))
def spec_l7Val.f (k : Nat) (l0 : List Int) (a1 : Int) : Option (Int × Int × ByteArray × Int × Bool) := (spec_GetU.f k l0 a1).bind fun bt401 => (if bt401.1 = 1 then (spec_l7Val.j0 k l0 bt401.2.1 bt401.2.2 true bt401.1 (bt401.1 == 1) bt401.1 0 (⟨#[]⟩ : ByteArray)) else (spec_l7Val.j0 k l0 bt401.2.1 bt401.2.2 true bt401.1 (bt401.1 == 2) bt401.1 0 (⟨#[]⟩ : ByteArray)))
theorem spec_l7Val.mono_l : ∀ k, (∀ y0 y1 y2 y3 y4 y5 y6 y7 y8, LeO (spec_l7Val.j0 k y0 y1 y2 y3 y4 y5 y6 y7 y8) (spec_l7Val.j0 (k + 1) y0 y1 y2 y3 y4 y5 y6 y7 y8))
 | 0 => fun _ _ _ _ _ _ _ _ _ r h => by simp [spec_l7Val.j0] at h
 | k + 1 => by
  have ih0 := spec_l7Val.mono_l k
  ·intro y0 y1 y2 y3 y4 y5 y6 y7 y8
   unfold spec_l7Val.j0
   repeat' first
   | (with_reducible exact ih0 _ _ _ _ _ _ _ _ _)
   | (with_reducible exact spec_GetText.mono _ _ _)
   | (with_reducible exact spec_GetU.mono _ _ _)
   | (with_reducible exact spec_GetVar.mono _ _ _)
   | (with_reducible exact LeO.refl _)
   | (with_reducible exact LeO.none _)
   | (with_reducible refine LeO.ite ?_ ?_)
   | (with_reducible refine LeO.bind ?_ (fun _ => ?_))
   | exact ih0 _ _ _ _ _ _ _ _ _
   | exact spec_GetText.mono _ _ _
   | exact spec_GetU.mono _ _ _
   | exact spec_GetVar.mono _ _ _
   | exact LeO.none _
   | refine LeO.ite ?_ ?_
   | refine LeO.bind ?_ (fun _ => ?_)
theorem spec_l7Val.mono : ∀ a0 a1 k, LeO (spec_l7Val.f k a0 a1) (spec_l7Val.f (k + 1) a0 a1) := by
 intro a0 a1 k
 have ih0 := spec_l7Val.mono_l k
 unfold spec_l7Val.f
 repeat' first
   | (with_reducible exact ih0 _ _ _ _ _ _ _ _ _)
   | (with_reducible exact spec_GetText.mono _ _ _)
   | (with_reducible exact spec_GetU.mono _ _ _)
   | (with_reducible exact spec_GetVar.mono _ _ _)
   | (with_reducible exact LeO.refl _)
   | (with_reducible exact LeO.none _)
   | (with_reducible refine LeO.ite ?_ ?_)
   | (with_reducible refine LeO.bind ?_ (fun _ => ?_))
   | exact ih0 _ _ _ _ _ _ _ _ _
   | exact spec_GetText.mono _ _ _
   | exact spec_GetU.mono _ _ _
   | exact spec_GetVar.mono _ _ _
   | exact LeO.none _
   | refine LeO.ite ?_ ?_
   | refine LeO.bind ?_ (fun _ => ?_)
set_option maxHeartbeats 8000000 in
set_option maxRecDepth 100000 in
theorem spec_l7Val.calls (k : Nat) (A0 : Option Addr) (c0 : Nat) (l0 : List Int) (a1 : Int) (r1 : Int) (r2 : Int) (r3 : ByteArray) (r4 : Int) (r5 : Bool) (w : World) (hr0 : Kd.C (Kd.int .u8) w A0 l0.length l0) (hc0 : l0.length ≤ c0) (h : spec_l7Val.f k l0 a1 = some (r1, r2, r3, r4, r5)) :
  Calls Try.prog 118 #[.slice A0 l0.length c0, .int .i64 a1] w fun e w' => e = .returned (.tuple #[.agg #[.int .i64 r1, .int .i64 r2, .string r3], .int .i64 r4, .bool r5]) ∧ Below w.heap.size w w' := by
 have hu116 := Try.underlying116
 have HR0 := aM_ hr0
 have HC0 := aM_ hc0
 clear hr0 hc0
 have HB := aM_ (Below.refl w.heap.size w)
 have H : ((spec_GetU.f k l0 a1).bind fun bt401 => (if bt401.1 = 1 then (spec_l7Val.j0 k l0 bt401.2.1 bt401.2.2 true bt401.1 (bt401.1 == 1) bt401.1 0 (⟨#[]⟩ : ByteArray)) else (spec_l7Val.j0 k l0 bt401.2.1 bt401.2.2 true bt401.1 (bt401.1 == 2) bt401.1 0 (⟨#[]⟩ : ByteArray)))) = some (r1, r2, r3, r4, r5) := h
 clear h
 replace H := Option.bind_eq_some_iff.mp H
 obtain ⟨⟨t401, t402, t403⟩, A30, H⟩ := H
 replace H : (if t401 = 1 then (spec_l7Val.j0 k l0 t402 t403 true t401 (t401 == 1) t401 0 (⟨#[]⟩ : ByteArray)) else (spec_l7Val.j0 k l0 t402 t403 true t401 (t401 == 2) t401 0 (⟨#[]⟩ : ByteArray))) = some (r1, r2, r3, r4, r5) := H
 have A3 := aM_ A30
 clear A30
 have HC4 := aM_ H
 clear H
 go_enter Try.func118, Try.ntmps118
 go_upto_if 22 with (first | ((with_reducible refine gate_dst (N := 4) rfl ?_); refine box_event ?hg (N := 4) ?hd (cs := #[.int .i64 0, .int .i64 0, .string (⟨#[]⟩ : ByteArray)]) (t := 116) ?hr ?_; (case hd => rfl); (case hg => rfl); (case hr => first | (go_simp; done) | (go_simp; rfl)); intro gb400 hg w5 hbox hb; have n0_ := aM_ (bT_ (by repeat (first | (with_reducible first | exact HB.out | apply bA_ | apply bN_ | apply bD_) | exact HB.out)) hb); have n1_ := aM_ (hbox); have n2_ := aM_ ((by rw [hg]; exact (bS_ (by repeat (first | (with_reducible first | exact HB.out | apply bA_ | apply bN_ | apply bD_) | exact HB.out))) : w.heap.size ≤ gb400)); have n3_ := aM_ ((by rw [hg]; exact (bS_ (by repeat (first | (with_reducible first | exact HB.out | apply bA_ | apply bN_ | apply bD_) | exact HB.out))) : w.heap.size ≤ gb400)); clear HB; have HB := n0_; have BK400 := n1_; have GW400 := n2_; have GE400 := n3_; clear n0_ n1_ n2_ n3_; clear hb hbox hg) | ((with_reducible refine gate_callee (f := 117) rfl ?_); refine goesL_ (some 15) rfl rfl Try.func117 (by kernel_rfl) rfl #[.slice A0 l0.length c0, .int .i64 a1] rfl (by (try simp only [List.map_toArray, List.map_cons, List.map_nil]); first | done | rfl | (simp only [List.length_drop, List.length_take]; rfl)) ?_; (with_reducible refine (spec_GetU.calls k _ _ l0 a1 t401 t402 t403 _ ?side1 ?side2 A3.out).mono ?_); (case side1 => repeat (first | exact (Kd.C_below HR0.out HB.out) | (with_reducible refine cA_ ?_ _) | (with_reducible refine cN_ ?_ _) | (with_reducible refine cD_ ?_))); (case side2 => exact HC0.out); rintro e w' ⟨rfl, ⟨nd, rfl⟩⟩; refine ⟨_, rfl, ?_⟩; (try (rw [drewN_self w5]; generalize hq_ : World.drewN w5 _ = w5; have n0_ : Aside0 (w5.heap[gb400]? = some (.cells #[.int .i64 0, .int .i64 0, .string (⟨#[]⟩ : ByteArray)] 116 (0, 0))) := ⟨by rw [← hq_]; exact (by (with_reducible repeat (first | refine kN_ ?_ _ | refine kD_ ?_ | refine kA_ ?_ _)); exact BK400.out)⟩; have n1_ : Aside0 (Below w.heap.size w w5) := ⟨by rw [← hq_]; exact (by repeat (first | (with_reducible first | exact HB.out | apply bA_ | apply bN_ | apply bD_ | refine bE_ ?_ GE400.out) | exact HB.out))⟩; clear BK400 HB hq_; have BK400 := n0_; have HB := n1_; clear n0_ n1_))) | ((with_reducible refine gate_dst (N := 10) rfl ?_); refine box_event ?hg (N := 10) ?hd (cs := #[.int .i64 0, .int .i64 0, .string (⟨#[]⟩ : ByteArray)]) (t := 116) ?hr ?_; (case hd => rfl); (case hg => rfl); (case hr => first | (go_simp; done) | (go_simp; rfl)); intro gb404 hg w6 hbox hb; have n0_ := aM_ (blk_below (g := gb400) (o := .cells #[.int .i64 0, .int .i64 0, .string (⟨#[]⟩ : ByteArray)] 116 (0, 0)) (by (with_reducible repeat (first | refine kN_ ?_ _ | refine kD_ ?_ | refine kA_ ?_ _)); exact BK400.out) hb); have n1_ := aM_ (bT_ (by repeat (first | (with_reducible first | exact HB.out | apply bA_ | apply bN_ | apply bD_ | refine bE_ ?_ GE400.out) | exact HB.out)) hb); have n2_ := aM_ (hbox); have n3_ := aM_ ((by rw [hg]; exact (bS_ (by repeat (first | (with_reducible first | exact HB.out | apply bA_ | apply bN_ | apply bD_ | refine bE_ ?_ GE400.out) | exact HB.out))) : w.heap.size ≤ gb404)); have n4_ := aM_ ((by rw [hg]; exact (bS_ (by repeat (first | (with_reducible first | exact HB.out | apply bA_ | apply bN_ | apply bD_ | refine bE_ ?_ GE400.out) | exact HB.out))) : w.heap.size ≤ gb404)); have n5_ := aM_ ((by rw [hg]; exact Nat.ne_of_lt (blk_lt (g := gb400) (o := .cells #[.int .i64 0, .int .i64 0, .string (⟨#[]⟩ : ByteArray)] 116 (0, 0)) (by (with_reducible repeat (first | refine kN_ ?_ _ | refine kD_ ?_ | refine kA_ ?_ _)); exact BK400.out)) : gb400 ≠ gb404)); have n6_ := aM_ ((by rw [hg]; exact Nat.ne_of_gt (blk_lt (g := gb400) (o := .cells #[.int .i64 0, .int .i64 0, .string (⟨#[]⟩ : ByteArray)] 116 (0, 0)) (by (with_reducible repeat (first | refine kN_ ?_ _ | refine kD_ ?_ | refine kA_ ?_ _)); exact BK400.out)) : gb404 ≠ gb400)); clear BK400; clear HB; have BK400 := n0_; have HB := n1_; have BK404 := n2_; have GW404 := n3_; have GE404 := n4_; have NB400_404 := n5_; have NB404_400 := n6_; clear n0_ n1_ n2_ n3_ n4_ n5_ n6_; clear hb hbox hg; have hnb7 := NB404_400.out; have hnc7 := NB400_404.out; have hcz8_0 : w6.cell? ⟨gb404, 0, none⟩ = some (.int .i64 0) := (kC_ BK404.out 0).trans rfl; have hcz8_1 : w6.cell? ⟨gb404, 1, none⟩ = some (.int .i64 0) := (kC_ BK404.out 1).trans rfl; have hcz8_2 : w6.cell? ⟨gb404, 2, none⟩ = some (.string (⟨#[]⟩ : ByteArray)) := (kC_ BK404.out 2).trans rfl; have hfz8_0 := kF_ BK404.out 0; have hfz8_1 := kF_ BK404.out 1; have hfz8_2 := kF_ BK404.out 2))
 (try simp only [Act.put, List.setIfInBounds_toArray, List.set_cons_zero, List.set_cons_succ])
 go_cut [22] (fun v22 wc => ∃ (kq : Nat) (x22_3 : Bool), v22 = .bool x22_3 ∧ Aside0 (spec_l7Val.j0 kq l0 t402 t403 true t401 x22_3 t401 0 (⟨#[]⟩ : ByteArray) = some (r1, r2, r3, r4, r5)) ∧ Aside0 (kq ≤ k) ∧ Aside0 (wc.heap[gb400]? = some (.cells #[.int .i64 0, .int .i64 0, .string (⟨#[]⟩ : ByteArray)] 116 (0, 0))) ∧ Aside0 (wc.heap[gb404]? = some (.cells #[.int .i64 t401, .int .i64 0, .string (⟨#[]⟩ : ByteArray)] 116 (0, 0))) ∧ Aside0 (Below w.heap.size w wc))
 case first =>
  have H := HC4.out
  clear HC4
  by_cases c9 : t401 = 1
  ·rw [if_pos c9] at H
   have c9b0 : (t401 == 1) = true := beq_iff_eq.mpr c9
   have c9b1 : (t401 != 1) = false := bne_eq_false_iff_eq.mpr c9
   clear c9
   (first | rw [c9b0] | (simp only [i64_w, i32_w]; rw [c9b0]) | skip)
   have H' := aM_ H
   clear H
   go_wp2
   (first | go_meet | (refine Met.intro ?_; go_step; (repeat apply Exists.intro); refine ⟨?rel, ?eq⟩; (case eq => (try simp only [c16b0]); (try simp only [c16b0]); (try simp only [c9b0]); rfl)))
   case rel => exact ⟨_, ((t401 == 1)), (by first | rfl | (simp; done) | (simp [*]; done)), H', ⟨by first | omega | exact Nat.le_refl _⟩, ⟨by (with_reducible repeat (first | refine kN_ ?_ _ | refine kD_ ?_ | refine kA_ ?_ _)); refine blk_far ?_ NB400_404.out _; (with_reducible repeat (first | refine kN_ ?_ _ | refine kD_ ?_ | refine kA_ ?_ _)); refine blk_far ?_ NB400_404.out _; (with_reducible repeat (first | refine kN_ ?_ _ | refine kD_ ?_ | refine kA_ ?_ _)); refine blk_far ?_ NB400_404.out _; (with_reducible repeat (first | refine kN_ ?_ _ | refine kD_ ?_ | refine kA_ ?_ _)); exact BK400.out⟩, ⟨by (with_reducible repeat (first | refine kN_ ?_ _ | refine kD_ ?_ | refine kA_ ?_ _)); refine blk_put (cs := #[.int .i64 t401, .int .i64 0, .string (⟨#[]⟩ : ByteArray)]) ?_ 2 _ rfl; (with_reducible repeat (first | refine kN_ ?_ _ | refine kD_ ?_ | refine kA_ ?_ _)); refine blk_put (cs := #[.int .i64 t401, .int .i64 0, .string (⟨#[]⟩ : ByteArray)]) ?_ 1 _ rfl; (with_reducible repeat (first | refine kN_ ?_ _ | refine kD_ ?_ | refine kA_ ?_ _)); refine blk_put (cs := #[.int .i64 0, .int .i64 0, .string (⟨#[]⟩ : ByteArray)]) ?_ 0 _ rfl; (with_reducible repeat (first | refine kN_ ?_ _ | refine kD_ ?_ | refine kA_ ?_ _)); exact BK404.out⟩, ⟨by repeat (first | (with_reducible first | exact HB.out | apply bA_ | apply bN_ | apply bD_ | refine bE_ ?_ GE400.out | refine bE_ ?_ GE404.out) | exact HB.out)⟩⟩
  ·rw [if_neg c9] at H
   have c9b0 : (t401 == 1) = false := beq_eq_false_iff_ne.mpr c9
   have c9b1 : (t401 != 1) = true := bne_iff_ne.mpr c9
   (first | rw [c9b0] | (simp only [i64_w, i32_w]; rw [c9b0]) | skip)
   have H' := aM_ H
   clear H
   go_wp2
   (first | go_meet | (refine Met.intro ?_; go_step; (repeat apply Exists.intro); refine ⟨?rel, ?eq⟩; (case eq => (try simp only [c16b0]); (try simp only [c9b0]); (try simp only [c9b0]); rfl)))
   case rel => exact ⟨_, ((t401 == 2)), (by first | rfl | (simp; done) | (simp [*]; done)), H', ⟨by first | omega | exact Nat.le_refl _⟩, ⟨by (with_reducible repeat (first | refine kN_ ?_ _ | refine kD_ ?_ | refine kA_ ?_ _)); refine blk_far ?_ NB400_404.out _; (with_reducible repeat (first | refine kN_ ?_ _ | refine kD_ ?_ | refine kA_ ?_ _)); refine blk_far ?_ NB400_404.out _; (with_reducible repeat (first | refine kN_ ?_ _ | refine kD_ ?_ | refine kA_ ?_ _)); refine blk_far ?_ NB400_404.out _; (with_reducible repeat (first | refine kN_ ?_ _ | refine kD_ ?_ | refine kA_ ?_ _)); exact BK400.out⟩, ⟨by (with_reducible repeat (first | refine kN_ ?_ _ | refine kD_ ?_ | refine kA_ ?_ _)); refine blk_put (cs := #[.int .i64 t401, .int .i64 0, .string (⟨#[]⟩ : ByteArray)]) ?_ 2 _ rfl; (with_reducible repeat (first | refine kN_ ?_ _ | refine kD_ ?_ | refine kA_ ?_ _)); refine blk_put (cs := #[.int .i64 t401, .int .i64 0, .string (⟨#[]⟩ : ByteArray)]) ?_ 1 _ rfl; (with_reducible repeat (first | refine kN_ ?_ _ | refine kD_ ?_ | refine kA_ ?_ _)); refine blk_put (cs := #[.int .i64 0, .int .i64 0, .string (⟨#[]⟩ : ByteArray)]) ?_ 0 _ rfl; (with_reducible repeat (first | refine kN_ ?_ _ | refine kD_ ?_ | refine kA_ ?_ _)); exact BK404.out⟩, ⟨by repeat (first | (with_reducible first | exact HB.out | apply bA_ | apply bN_ | apply bD_ | refine bE_ ?_ GE400.out | refine bE_ ?_ GE404.out) | exact HB.out)⟩⟩
 case rest =>
  clear HC4
  try clear c1
  try clear p2
  try clear c7
  try clear c9
  try clear c9b0
  try clear c9b1
  try clear hcz8_0
  try clear hcz8_1
  try clear hcz8_2
  try clear hfz8_0
  try clear hfz8_1
  try clear hfz8_2
  obtain ⟨kq, x22_3, rfl, HA, HJ3, BK400, BK404, HB⟩ := hcut
  cases kq with
  | zero => exact absurd HA.out (by simp [spec_l7Val.j0])
  | succ kj3 =>
   have H := HA.out
   clear HA
   simp only [spec_l7Val.j0] at H
   by_cases c10 : x22_3 = true
   ·subst c10
    have H1 : ((spec_GetVar.f kj3 l0 t402).bind fun bt405 => (if t403 = true then (some (t401, bt405.1, (⟨#[]⟩ : ByteArray), bt405.2.1, bt405.2.2)) else (some (t401, bt405.1, (⟨#[]⟩ : ByteArray), bt405.2.1, false)))) = some (r1, r2, r3, r4, r5) := by rw [if_pos rfl] at H; exact H
    clear H
    have H := H1
    clear H1
    replace H := Option.bind_eq_some_iff.mp H
    obtain ⟨⟨t405, t406, t407⟩, A110, H⟩ := H
    replace H : (if t403 = true then (some (t401, t405, (⟨#[]⟩ : ByteArray), t406, t407)) else (some (t401, t405, (⟨#[]⟩ : ByteArray), t406, false))) = some (r1, r2, r3, r4, r5) := H
    have A11 := aM_ A110
    clear A110
    by_cases c12 : t403 = true
    ·subst c12
     have H1 : (some (t401, t405, (⟨#[]⟩ : ByteArray), t406, t407)) = some (r1, r2, r3, r4, r5) := by rw [if_pos rfl] at H; exact H
     clear H
     have H := H1
     clear H1
     simp only [Option.some.injEq, Prod.mk.injEq] at H
     obtain ⟨rfl, rfl, rfl, rfl, rfl⟩ := H
     go_wp2_with (first | ((with_reducible refine gate_callee (f := 166) rfl ?_); refine goesL_ (some 28) rfl rfl Try.func166 (by kernel_rfl) rfl #[.slice A0 l0.length c0, .int .i64 t402] rfl (by (try simp only [List.map_toArray, List.map_cons, List.map_nil]); first | done | rfl | (simp only [List.length_drop, List.length_take]; rfl)) ?_; (with_reducible refine (spec_GetVar.calls kj3 _ _ l0 t402 t405 t406 t407 _ ?side1 ?side2 A11.out).mono ?_); (case side1 => repeat (first | exact (Kd.C_below HR0.out HB.out) | (with_reducible refine cA_ ?_ _) | (with_reducible refine cN_ ?_ _) | (with_reducible refine cD_ ?_))); (case side2 => exact HC0.out); rintro e w13 ⟨rfl, hb⟩; refine ⟨_, rfl, ?_⟩; have n0_ := aM_ (blk_below (g := gb400) (o := .cells #[.int .i64 0, .int .i64 0, .string (⟨#[]⟩ : ByteArray)] 116 (0, 0)) (by (with_reducible repeat (first | refine kN_ ?_ _ | refine kD_ ?_ | refine kA_ ?_ _)); exact BK400.out) hb); have n1_ := aM_ (blk_below (g := gb404) (o := .cells #[.int .i64 t401, .int .i64 0, .string (⟨#[]⟩ : ByteArray)] 116 (0, 0)) (by (with_reducible repeat (first | refine kN_ ?_ _ | refine kD_ ?_ | refine kA_ ?_ _)); exact BK404.out) hb); have n2_ := aM_ (bT_ (by repeat (first | (with_reducible first | exact HB.out | apply bA_ | apply bN_ | apply bD_ | refine bE_ ?_ GE400.out | refine bE_ ?_ GE404.out) | exact HB.out)) hb); clear BK400; clear BK404; clear HB; have BK400 := n0_; have BK404 := n1_; have HB := n2_; clear n0_ n1_ n2_; (try clear hb); (try clear hb2); (try clear hk); (try clear hi); have hnb14 := NB404_400.out; have hnc14 := NB400_404.out; have hcz15_0 : w13.cell? ⟨gb404, 0, none⟩ = some (.int .i64 t401) := (kC_ BK404.out 0).trans rfl; have hcz15_1 : w13.cell? ⟨gb404, 1, none⟩ = some (.int .i64 0) := (kC_ BK404.out 1).trans rfl; have hcz15_2 : w13.cell? ⟨gb404, 2, none⟩ = some (.string (⟨#[]⟩ : ByteArray)) := (kC_ BK404.out 2).trans rfl; have hfz15_0 := kF_ BK404.out 0; have hfz15_1 := kF_ BK404.out 1; have hfz15_2 := kF_ BK404.out 2; have hcz16_0 : w13.cell? ⟨gb400, 0, none⟩ = some (.int .i64 0) := (kC_ BK400.out 0).trans rfl; have hcz16_1 : w13.cell? ⟨gb400, 1, none⟩ = some (.int .i64 0) := (kC_ BK400.out 1).trans rfl; have hcz16_2 : w13.cell? ⟨gb400, 2, none⟩ = some (.string (⟨#[]⟩ : ByteArray)) := (kC_ BK400.out 2).trans rfl; have hfz16_0 := kF_ BK400.out 0; have hfz16_1 := kF_ BK400.out 1; have hfz16_2 := kF_ BK400.out 2))
     refine bodyPost_ret (results_ctt rfl _ _ gb400 116 #[.int .i64 t401, .int .i64 t405, .string (⟨#[]⟩ : ByteArray)] (0, 0) _ rfl (by (with_reducible repeat (first | refine kN_ ?_ _ | refine kD_ ?_ | refine kA_ ?_ _)); refine blk_put (cs := #[.int .i64 t401, .int .i64 t405, .string (⟨#[]⟩ : ByteArray)]) ?_ 2 _ rfl; (with_reducible repeat (first | refine kN_ ?_ _ | refine kD_ ?_ | refine kA_ ?_ _)); refine blk_put (cs := #[.int .i64 t401, .int .i64 0, .string (⟨#[]⟩ : ByteArray)]) ?_ 1 _ rfl; (with_reducible repeat (first | refine kN_ ?_ _ | refine kD_ ?_ | refine kA_ ?_ _)); refine blk_put (cs := #[.int .i64 0, .int .i64 0, .string (⟨#[]⟩ : ByteArray)]) ?_ 0 _ rfl; (with_reducible repeat (first | refine kN_ ?_ _ | refine kD_ ?_ | refine kA_ ?_ _)); refine blk_far ?_ NB400_404.out _; (with_reducible repeat (first | refine kN_ ?_ _ | refine kD_ ?_ | refine kA_ ?_ _)); exact BK400.out) Try.underlying116 rfl (by kernel_rfl)) rfl ?_
     exact ⟨by first | rfl | (simp [errW_none, errW_some] <;> rfl) | (simp [*, errW_none, errW_some] <;> rfl), by repeat (first | (with_reducible first | exact HB.out | apply bA_ | apply bN_ | apply bD_ | refine bE_ ?_ GE400.out | refine bE_ ?_ GE404.out) | exact HB.out)⟩
    ·replace c12 := Bool.eq_false_iff.mpr c12
     subst c12
     have H1 : (some (t401, t405, (⟨#[]⟩ : ByteArray), t406, false)) = some (r1, r2, r3, r4, r5) := by rw [if_neg (show ¬ (false = true) by decide)] at H; exact H
     clear H
     have H := H1
     clear H1
     simp only [Option.some.injEq, Prod.mk.injEq] at H
     obtain ⟨rfl, rfl, rfl, rfl, rfl⟩ := H
     go_wp2_with (first | ((with_reducible refine gate_callee (f := 166) rfl ?_); refine goesL_ (some 28) rfl rfl Try.func166 (by kernel_rfl) rfl #[.slice A0 l0.length c0, .int .i64 t402] rfl (by (try simp only [List.map_toArray, List.map_cons, List.map_nil]); first | done | rfl | (simp only [List.length_drop, List.length_take]; rfl)) ?_; (with_reducible refine (spec_GetVar.calls kj3 _ _ l0 t402 t405 t406 t407 _ ?side1 ?side2 A11.out).mono ?_); (case side1 => repeat (first | exact (Kd.C_below HR0.out HB.out) | (with_reducible refine cA_ ?_ _) | (with_reducible refine cN_ ?_ _) | (with_reducible refine cD_ ?_))); (case side2 => exact HC0.out); rintro e w17 ⟨rfl, hb⟩; refine ⟨_, rfl, ?_⟩; have n0_ := aM_ (blk_below (g := gb400) (o := .cells #[.int .i64 0, .int .i64 0, .string (⟨#[]⟩ : ByteArray)] 116 (0, 0)) (by (with_reducible repeat (first | refine kN_ ?_ _ | refine kD_ ?_ | refine kA_ ?_ _)); exact BK400.out) hb); have n1_ := aM_ (blk_below (g := gb404) (o := .cells #[.int .i64 t401, .int .i64 0, .string (⟨#[]⟩ : ByteArray)] 116 (0, 0)) (by (with_reducible repeat (first | refine kN_ ?_ _ | refine kD_ ?_ | refine kA_ ?_ _)); exact BK404.out) hb); have n2_ := aM_ (bT_ (by repeat (first | (with_reducible first | exact HB.out | apply bA_ | apply bN_ | apply bD_ | refine bE_ ?_ GE400.out | refine bE_ ?_ GE404.out) | exact HB.out)) hb); clear BK400; clear BK404; clear HB; have BK400 := n0_; have BK404 := n1_; have HB := n2_; clear n0_ n1_ n2_; (try clear hb); (try clear hb2); (try clear hk); (try clear hi); have hnb18 := NB404_400.out; have hnc18 := NB400_404.out; have hcz19_0 : w17.cell? ⟨gb404, 0, none⟩ = some (.int .i64 t401) := (kC_ BK404.out 0).trans rfl; have hcz19_1 : w17.cell? ⟨gb404, 1, none⟩ = some (.int .i64 0) := (kC_ BK404.out 1).trans rfl; have hcz19_2 : w17.cell? ⟨gb404, 2, none⟩ = some (.string (⟨#[]⟩ : ByteArray)) := (kC_ BK404.out 2).trans rfl; have hfz19_0 := kF_ BK404.out 0; have hfz19_1 := kF_ BK404.out 1; have hfz19_2 := kF_ BK404.out 2; have hcz20_0 : w17.cell? ⟨gb400, 0, none⟩ = some (.int .i64 0) := (kC_ BK400.out 0).trans rfl; have hcz20_1 : w17.cell? ⟨gb400, 1, none⟩ = some (.int .i64 0) := (kC_ BK400.out 1).trans rfl; have hcz20_2 : w17.cell? ⟨gb400, 2, none⟩ = some (.string (⟨#[]⟩ : ByteArray)) := (kC_ BK400.out 2).trans rfl; have hfz20_0 := kF_ BK400.out 0; have hfz20_1 := kF_ BK400.out 1; have hfz20_2 := kF_ BK400.out 2))
     refine bodyPost_ret (results_ctt rfl _ _ gb400 116 #[.int .i64 t401, .int .i64 t405, .string (⟨#[]⟩ : ByteArray)] (0, 0) _ rfl (by (with_reducible repeat (first | refine kN_ ?_ _ | refine kD_ ?_ | refine kA_ ?_ _)); refine blk_put (cs := #[.int .i64 t401, .int .i64 t405, .string (⟨#[]⟩ : ByteArray)]) ?_ 2 _ rfl; (with_reducible repeat (first | refine kN_ ?_ _ | refine kD_ ?_ | refine kA_ ?_ _)); refine blk_put (cs := #[.int .i64 t401, .int .i64 0, .string (⟨#[]⟩ : ByteArray)]) ?_ 1 _ rfl; (with_reducible repeat (first | refine kN_ ?_ _ | refine kD_ ?_ | refine kA_ ?_ _)); refine blk_put (cs := #[.int .i64 0, .int .i64 0, .string (⟨#[]⟩ : ByteArray)]) ?_ 0 _ rfl; (with_reducible repeat (first | refine kN_ ?_ _ | refine kD_ ?_ | refine kA_ ?_ _)); refine blk_far ?_ NB400_404.out _; (with_reducible repeat (first | refine kN_ ?_ _ | refine kD_ ?_ | refine kA_ ?_ _)); exact BK400.out) Try.underlying116 rfl (by kernel_rfl)) rfl ?_
     exact ⟨by first | rfl | (simp [errW_none, errW_some] <;> rfl) | (simp [*, errW_none, errW_some] <;> rfl), by repeat (first | (with_reducible first | exact HB.out | apply bA_ | apply bN_ | apply bD_ | refine bE_ ?_ GE400.out | refine bE_ ?_ GE404.out) | exact HB.out)⟩
   ·replace c10 := Bool.eq_false_iff.mpr c10
    subst c10
    have H1 : (if t401 = 3 then ((spec_GetText.f kj3 l0 t402).bind fun bt408 => (if t403 = true then (some (t401, 0, bt408.1, bt408.2.1, bt408.2.2)) else (some (t401, 0, bt408.1, bt408.2.1, false)))) else (if t401 = 4 then (if t402 < (l0.length : Int) then (if 0 ≤ t402 then (if t403 = true then (some (t401, wrap64 (rd l0 t402), (⟨#[]⟩ : ByteArray), wrap64 (t402 + 1), decide (t402 < (l0.length : Int)))) else (some (t401, wrap64 (rd l0 t402), (⟨#[]⟩ : ByteArray), wrap64 (t402 + 1), false))) else (none)) else (if t403 = true then (some (t401, 0, (⟨#[]⟩ : ByteArray), t402, decide (t402 < (l0.length : Int)))) else (some (t401, 0, (⟨#[]⟩ : ByteArray), t402, false)))) else (if t403 = true then (some (t401, 0, (⟨#[]⟩ : ByteArray), t402, true)) else (some (t401, 0, (⟨#[]⟩ : ByteArray), t402, false))))) = some (r1, r2, r3, r4, r5) := by rw [if_neg (show ¬ (false = true) by decide)] at H; exact H
    clear H
    have H := H1
    clear H1
    by_cases c21 : t401 = 3
    ·rw [if_pos c21] at H
     have c21b0 : (t401 == 3) = true := beq_iff_eq.mpr c21
     have c21b1 : (t401 != 3) = false := bne_eq_false_iff_eq.mpr c21
     clear c21
     replace H := Option.bind_eq_some_iff.mp H
     obtain ⟨⟨t408, t409, t410⟩, A220, H⟩ := H
     replace H : (if t403 = true then (some (t401, 0, t408, t409, t410)) else (some (t401, 0, t408, t409, false))) = some (r1, r2, r3, r4, r5) := H
     have A22 := aM_ A220
     clear A220
     by_cases c23 : t403 = true
     ·subst c23
      have H1 : (some (t401, 0, t408, t409, t410)) = some (r1, r2, r3, r4, r5) := by rw [if_pos rfl] at H; exact H
      clear H
      have H := H1
      clear H1
      simp only [Option.some.injEq, Prod.mk.injEq] at H
      obtain ⟨rfl, rfl, rfl, rfl, rfl⟩ := H
      go_wp2_with (first | ((with_reducible refine gate_callee (f := 144) rfl ?_); refine goesL_ (some 38) rfl rfl Try.func144 (by kernel_rfl) rfl #[.slice A0 l0.length c0, .int .i64 t402] rfl (by (try simp only [List.map_toArray, List.map_cons, List.map_nil]); first | done | rfl | (simp only [List.length_drop, List.length_take]; rfl)) ?_; (with_reducible refine (spec_GetText.calls kj3 _ _ l0 t402 t408 t409 t410 _ ?side1 ?side2 A22.out).mono ?_); (case side1 => repeat (first | exact (Kd.C_below HR0.out HB.out) | (with_reducible refine cA_ ?_ _) | (with_reducible refine cN_ ?_ _) | (with_reducible refine cD_ ?_))); (case side2 => exact HC0.out); rintro e w' ⟨rfl, ⟨nd, rfl⟩⟩; refine ⟨_, rfl, ?_⟩; (try (rw [drewN_self wc]; generalize hq_ : World.drewN wc _ = wc; have n0_ : Aside0 (wc.heap[gb400]? = some (.cells #[.int .i64 0, .int .i64 0, .string (⟨#[]⟩ : ByteArray)] 116 (0, 0))) := ⟨by rw [← hq_]; exact (by (with_reducible repeat (first | refine kN_ ?_ _ | refine kD_ ?_ | refine kA_ ?_ _)); exact BK400.out)⟩; have n1_ : Aside0 (wc.heap[gb404]? = some (.cells #[.int .i64 t401, .int .i64 0, .string (⟨#[]⟩ : ByteArray)] 116 (0, 0))) := ⟨by rw [← hq_]; exact (by (with_reducible repeat (first | refine kN_ ?_ _ | refine kD_ ?_ | refine kA_ ?_ _)); exact BK404.out)⟩; have n2_ : Aside0 (Below w.heap.size w wc) := ⟨by rw [← hq_]; exact (by repeat (first | (with_reducible first | exact HB.out | apply bA_ | apply bN_ | apply bD_ | refine bE_ ?_ GE400.out | refine bE_ ?_ GE404.out) | exact HB.out))⟩; clear BK400 BK404 HB hq_; have BK400 := n0_; have BK404 := n1_; have HB := n2_; clear n0_ n1_ n2_)); have hnb24 := NB404_400.out; have hnc24 := NB400_404.out; have hcz25_0 : wc.cell? ⟨gb404, 0, none⟩ = some (.int .i64 t401) := (kC_ BK404.out 0).trans rfl; have hcz25_1 : wc.cell? ⟨gb404, 1, none⟩ = some (.int .i64 0) := (kC_ BK404.out 1).trans rfl; have hcz25_2 : wc.cell? ⟨gb404, 2, none⟩ = some (.string (⟨#[]⟩ : ByteArray)) := (kC_ BK404.out 2).trans rfl; have hfz25_0 := kF_ BK404.out 0; have hfz25_1 := kF_ BK404.out 1; have hfz25_2 := kF_ BK404.out 2; have hcz26_0 : wc.cell? ⟨gb400, 0, none⟩ = some (.int .i64 0) := (kC_ BK400.out 0).trans rfl; have hcz26_1 : wc.cell? ⟨gb400, 1, none⟩ = some (.int .i64 0) := (kC_ BK400.out 1).trans rfl; have hcz26_2 : wc.cell? ⟨gb400, 2, none⟩ = some (.string (⟨#[]⟩ : ByteArray)) := (kC_ BK400.out 2).trans rfl; have hfz26_0 := kF_ BK400.out 0; have hfz26_1 := kF_ BK400.out 1; have hfz26_2 := kF_ BK400.out 2))
      refine bodyPost_ret (results_ctt rfl _ _ gb400 116 #[.int .i64 t401, .int .i64 0, .string t408] (0, 0) _ rfl (by (with_reducible repeat (first | refine kN_ ?_ _ | refine kD_ ?_ | refine kA_ ?_ _)); refine blk_put (cs := #[.int .i64 t401, .int .i64 0, .string (⟨#[]⟩ : ByteArray)]) ?_ 2 _ rfl; (with_reducible repeat (first | refine kN_ ?_ _ | refine kD_ ?_ | refine kA_ ?_ _)); refine blk_put (cs := #[.int .i64 t401, .int .i64 0, .string (⟨#[]⟩ : ByteArray)]) ?_ 1 _ rfl; (with_reducible repeat (first | refine kN_ ?_ _ | refine kD_ ?_ | refine kA_ ?_ _)); refine blk_put (cs := #[.int .i64 0, .int .i64 0, .string (⟨#[]⟩ : ByteArray)]) ?_ 0 _ rfl; (with_reducible repeat (first | refine kN_ ?_ _ | refine kD_ ?_ | refine kA_ ?_ _)); refine blk_far ?_ NB400_404.out _; (with_reducible repeat (first | refine kN_ ?_ _ | refine kD_ ?_ | refine kA_ ?_ _)); exact BK400.out) Try.underlying116 rfl (by kernel_rfl)) rfl ?_
      exact ⟨by first | rfl | (simp [errW_none, errW_some] <;> rfl) | (simp [*, errW_none, errW_some] <;> rfl), by repeat (first | (with_reducible first | exact HB.out | apply bA_ | apply bN_ | apply bD_ | refine bE_ ?_ GE400.out | refine bE_ ?_ GE404.out) | exact HB.out)⟩
     ·replace c23 := Bool.eq_false_iff.mpr c23
      subst c23
      have H1 : (some (t401, 0, t408, t409, false)) = some (r1, r2, r3, r4, r5) := by rw [if_neg (show ¬ (false = true) by decide)] at H; exact H
      clear H
      have H := H1
      clear H1
      simp only [Option.some.injEq, Prod.mk.injEq] at H
      obtain ⟨rfl, rfl, rfl, rfl, rfl⟩ := H
      go_wp2_with (first | ((with_reducible refine gate_callee (f := 144) rfl ?_); refine goesL_ (some 38) rfl rfl Try.func144 (by kernel_rfl) rfl #[.slice A0 l0.length c0, .int .i64 t402] rfl (by (try simp only [List.map_toArray, List.map_cons, List.map_nil]); first | done | rfl | (simp only [List.length_drop, List.length_take]; rfl)) ?_; (with_reducible refine (spec_GetText.calls kj3 _ _ l0 t402 t408 t409 t410 _ ?side1 ?side2 A22.out).mono ?_); (case side1 => repeat (first | exact (Kd.C_below HR0.out HB.out) | (with_reducible refine cA_ ?_ _) | (with_reducible refine cN_ ?_ _) | (with_reducible refine cD_ ?_))); (case side2 => exact HC0.out); rintro e w' ⟨rfl, ⟨nd, rfl⟩⟩; refine ⟨_, rfl, ?_⟩; (try (rw [drewN_self wc]; generalize hq_ : World.drewN wc _ = wc; have n0_ : Aside0 (wc.heap[gb400]? = some (.cells #[.int .i64 0, .int .i64 0, .string (⟨#[]⟩ : ByteArray)] 116 (0, 0))) := ⟨by rw [← hq_]; exact (by (with_reducible repeat (first | refine kN_ ?_ _ | refine kD_ ?_ | refine kA_ ?_ _)); exact BK400.out)⟩; have n1_ : Aside0 (wc.heap[gb404]? = some (.cells #[.int .i64 t401, .int .i64 0, .string (⟨#[]⟩ : ByteArray)] 116 (0, 0))) := ⟨by rw [← hq_]; exact (by (with_reducible repeat (first | refine kN_ ?_ _ | refine kD_ ?_ | refine kA_ ?_ _)); exact BK404.out)⟩; have n2_ : Aside0 (Below w.heap.size w wc) := ⟨by rw [← hq_]; exact (by repeat (first | (with_reducible first | exact HB.out | apply bA_ | apply bN_ | apply bD_ | refine bE_ ?_ GE400.out | refine bE_ ?_ GE404.out) | exact HB.out))⟩; clear BK400 BK404 HB hq_; have BK400 := n0_; have BK404 := n1_; have HB := n2_; clear n0_ n1_ n2_)); have hnb27 := NB404_400.out; have hnc27 := NB400_404.out; have hcz28_0 : wc.cell? ⟨gb404, 0, none⟩ = some (.int .i64 t401) := (kC_ BK404.out 0).trans rfl; have hcz28_1 : wc.cell? ⟨gb404, 1, none⟩ = some (.int .i64 0) := (kC_ BK404.out 1).trans rfl; have hcz28_2 : wc.cell? ⟨gb404, 2, none⟩ = some (.string (⟨#[]⟩ : ByteArray)) := (kC_ BK404.out 2).trans rfl; have hfz28_0 := kF_ BK404.out 0; have hfz28_1 := kF_ BK404.out 1; have hfz28_2 := kF_ BK404.out 2; have hcz29_0 : wc.cell? ⟨gb400, 0, none⟩ = some (.int .i64 0) := (kC_ BK400.out 0).trans rfl; have hcz29_1 : wc.cell? ⟨gb400, 1, none⟩ = some (.int .i64 0) := (kC_ BK400.out 1).trans rfl; have hcz29_2 : wc.cell? ⟨gb400, 2, none⟩ = some (.string (⟨#[]⟩ : ByteArray)) := (kC_ BK400.out 2).trans rfl; have hfz29_0 := kF_ BK400.out 0; have hfz29_1 := kF_ BK400.out 1; have hfz29_2 := kF_ BK400.out 2))
      refine bodyPost_ret (results_ctt rfl _ _ gb400 116 #[.int .i64 t401, .int .i64 0, .string t408] (0, 0) _ rfl (by (with_reducible repeat (first | refine kN_ ?_ _ | refine kD_ ?_ | refine kA_ ?_ _)); refine blk_put (cs := #[.int .i64 t401, .int .i64 0, .string (⟨#[]⟩ : ByteArray)]) ?_ 2 _ rfl; (with_reducible repeat (first | refine kN_ ?_ _ | refine kD_ ?_ | refine kA_ ?_ _)); refine blk_put (cs := #[.int .i64 t401, .int .i64 0, .string (⟨#[]⟩ : ByteArray)]) ?_ 1 _ rfl; (with_reducible repeat (first | refine kN_ ?_ _ | refine kD_ ?_ | refine kA_ ?_ _)); refine blk_put (cs := #[.int .i64 0, .int .i64 0, .string (⟨#[]⟩ : ByteArray)]) ?_ 0 _ rfl; (with_reducible repeat (first | refine kN_ ?_ _ | refine kD_ ?_ | refine kA_ ?_ _)); refine blk_far ?_ NB400_404.out _; (with_reducible repeat (first | refine kN_ ?_ _ | refine kD_ ?_ | refine kA_ ?_ _)); exact BK400.out) Try.underlying116 rfl (by kernel_rfl)) rfl ?_
      exact ⟨by first | rfl | (simp [errW_none, errW_some] <;> rfl) | (simp [*, errW_none, errW_some] <;> rfl), by repeat (first | (with_reducible first | exact HB.out | apply bA_ | apply bN_ | apply bD_ | refine bE_ ?_ GE400.out | refine bE_ ?_ GE404.out) | exact HB.out)⟩
    ·rw [if_neg c21] at H
     have c21b0 : (t401 == 3) = false := beq_eq_false_iff_ne.mpr c21
     have c21b1 : (t401 != 3) = true := bne_iff_ne.mpr c21
     by_cases c30 : t401 = 4
     ·rw [if_pos c30] at H
      have c30b0 : (t401 == 4) = true := beq_iff_eq.mpr c30
      have c30b1 : (t401 != 4) = false := bne_eq_false_iff_eq.mpr c30
      clear c30
      by_cases c31 : t402 < (l0.length : Int)
      ·rw [if_pos c31] at H
       have c31b0 : decide (t402 < (l0.length : Int)) = true := decide_eq_true c31
       clear c31
       by_cases c32 : 0 ≤ t402
       ·rw [if_pos c32] at H
        have c32b0 : decide (0 ≤ t402) = true := decide_eq_true c32
        clear c32
        by_cases c33 : t403 = true
        ·subst c33
         have H1 : (some (t401, wrap64 (rd l0 t402), (⟨#[]⟩ : ByteArray), wrap64 (t402 + 1), decide (t402 < (l0.length : Int)))) = some (r1, r2, r3, r4, r5) := by rw [if_pos rfl] at H; exact H
         clear H
         have H := H1
         clear H1
         simp only [Option.some.injEq, Prod.mk.injEq] at H
         obtain ⟨rfl, rfl, rfl, rfl, rfl⟩ := H
         have p411 : 0 ≤ (t402 : Int) := oT_ (by first | (with_reducible assumption) | assumption)
         have q411 : t402 < (l0.length : Int) := oT_ (by first | (with_reducible assumption) | assumption)
         obtain ⟨ad411, e411, hx411_0⟩ := Kd.at_int HR0.out t402 p411 q411
         cases e411
         replace hx411_0 := (HB.out.cell (wL_ w _ hx411_0)).trans hx411_0
         replace p411 := eq_true p411
         replace q411 := eq_true q411
         have hnb34 := NB404_400.out
         have hnc34 := NB400_404.out
         have hcz35_0 : wc.cell? ⟨gb404, 0, none⟩ = some (.int .i64 t401) := (kC_ BK404.out 0).trans rfl
         have hcz35_1 : wc.cell? ⟨gb404, 1, none⟩ = some (.int .i64 0) := (kC_ BK404.out 1).trans rfl
         have hcz35_2 : wc.cell? ⟨gb404, 2, none⟩ = some (.string (⟨#[]⟩ : ByteArray)) := (kC_ BK404.out 2).trans rfl
         have hfz35_0 := kF_ BK404.out 0
         have hfz35_1 := kF_ BK404.out 1
         have hfz35_2 := kF_ BK404.out 2
         have hcz36_0 : wc.cell? ⟨gb400, 0, none⟩ = some (.int .i64 0) := (kC_ BK400.out 0).trans rfl
         have hcz36_1 : wc.cell? ⟨gb400, 1, none⟩ = some (.int .i64 0) := (kC_ BK400.out 1).trans rfl
         have hcz36_2 : wc.cell? ⟨gb400, 2, none⟩ = some (.string (⟨#[]⟩ : ByteArray)) := (kC_ BK400.out 2).trans rfl
         have hfz36_0 := kF_ BK400.out 0
         have hfz36_1 := kF_ BK400.out 1
         have hfz36_2 := kF_ BK400.out 2
         go_wp2
         refine bodyPost_ret (results_ctt rfl _ _ gb400 116 #[.int .i64 t401, .int .i64 (wrap64 (rd l0 t402)), .string (⟨#[]⟩ : ByteArray)] (0, 0) _ rfl (by (with_reducible repeat (first | refine kN_ ?_ _ | refine kD_ ?_ | refine kA_ ?_ _)); refine blk_put (cs := #[.int .i64 t401, .int .i64 (wrap64 (rd l0 t402)), .string (⟨#[]⟩ : ByteArray)]) ?_ 2 _ rfl; (with_reducible repeat (first | refine kN_ ?_ _ | refine kD_ ?_ | refine kA_ ?_ _)); refine blk_put (cs := #[.int .i64 t401, .int .i64 0, .string (⟨#[]⟩ : ByteArray)]) ?_ 1 _ rfl; (with_reducible repeat (first | refine kN_ ?_ _ | refine kD_ ?_ | refine kA_ ?_ _)); refine blk_put (cs := #[.int .i64 0, .int .i64 0, .string (⟨#[]⟩ : ByteArray)]) ?_ 0 _ rfl; (with_reducible repeat (first | refine kN_ ?_ _ | refine kD_ ?_ | refine kA_ ?_ _)); refine blk_far ?_ NB400_404.out _; (with_reducible repeat (first | refine kN_ ?_ _ | refine kD_ ?_ | refine kA_ ?_ _)); exact BK400.out) Try.underlying116 rfl (by kernel_rfl)) rfl ?_
         exact ⟨by first | rfl | (simp [errW_none, errW_some] <;> rfl) | (simp [*, errW_none, errW_some] <;> rfl), by repeat (first | (with_reducible first | exact HB.out | apply bA_ | apply bN_ | apply bD_ | refine bE_ ?_ GE400.out | refine bE_ ?_ GE404.out) | exact HB.out)⟩
        ·replace c33 := Bool.eq_false_iff.mpr c33
         subst c33
         have H1 : (some (t401, wrap64 (rd l0 t402), (⟨#[]⟩ : ByteArray), wrap64 (t402 + 1), false)) = some (r1, r2, r3, r4, r5) := by rw [if_neg (show ¬ (false = true) by decide)] at H; exact H
         clear H
         have H := H1
         clear H1
         simp only [Option.some.injEq, Prod.mk.injEq] at H
         obtain ⟨rfl, rfl, rfl, rfl, rfl⟩ := H
         have p411 : 0 ≤ (t402 : Int) := oT_ (by first | (with_reducible assumption) | assumption)
         have q411 : t402 < (l0.length : Int) := oT_ (by first | (with_reducible assumption) | assumption)
         obtain ⟨ad411, e411, hx411_0⟩ := Kd.at_int HR0.out t402 p411 q411
         cases e411
         replace hx411_0 := (HB.out.cell (wL_ w _ hx411_0)).trans hx411_0
         replace p411 := eq_true p411
         replace q411 := eq_true q411
         have hnb37 := NB404_400.out
         have hnc37 := NB400_404.out
         have hcz38_0 : wc.cell? ⟨gb404, 0, none⟩ = some (.int .i64 t401) := (kC_ BK404.out 0).trans rfl
         have hcz38_1 : wc.cell? ⟨gb404, 1, none⟩ = some (.int .i64 0) := (kC_ BK404.out 1).trans rfl
         have hcz38_2 : wc.cell? ⟨gb404, 2, none⟩ = some (.string (⟨#[]⟩ : ByteArray)) := (kC_ BK404.out 2).trans rfl
         have hfz38_0 := kF_ BK404.out 0
         have hfz38_1 := kF_ BK404.out 1
         have hfz38_2 := kF_ BK404.out 2
         have hcz39_0 : wc.cell? ⟨gb400, 0, none⟩ = some (.int .i64 0) := (kC_ BK400.out 0).trans rfl
         have hcz39_1 : wc.cell? ⟨gb400, 1, none⟩ = some (.int .i64 0) := (kC_ BK400.out 1).trans rfl
         have hcz39_2 : wc.cell? ⟨gb400, 2, none⟩ = some (.string (⟨#[]⟩ : ByteArray)) := (kC_ BK400.out 2).trans rfl
         have hfz39_0 := kF_ BK400.out 0
         have hfz39_1 := kF_ BK400.out 1
         have hfz39_2 := kF_ BK400.out 2
         go_wp2
         refine bodyPost_ret (results_ctt rfl _ _ gb400 116 #[.int .i64 t401, .int .i64 (wrap64 (rd l0 t402)), .string (⟨#[]⟩ : ByteArray)] (0, 0) _ rfl (by (with_reducible repeat (first | refine kN_ ?_ _ | refine kD_ ?_ | refine kA_ ?_ _)); refine blk_put (cs := #[.int .i64 t401, .int .i64 (wrap64 (rd l0 t402)), .string (⟨#[]⟩ : ByteArray)]) ?_ 2 _ rfl; (with_reducible repeat (first | refine kN_ ?_ _ | refine kD_ ?_ | refine kA_ ?_ _)); refine blk_put (cs := #[.int .i64 t401, .int .i64 0, .string (⟨#[]⟩ : ByteArray)]) ?_ 1 _ rfl; (with_reducible repeat (first | refine kN_ ?_ _ | refine kD_ ?_ | refine kA_ ?_ _)); refine blk_put (cs := #[.int .i64 0, .int .i64 0, .string (⟨#[]⟩ : ByteArray)]) ?_ 0 _ rfl; (with_reducible repeat (first | refine kN_ ?_ _ | refine kD_ ?_ | refine kA_ ?_ _)); refine blk_far ?_ NB400_404.out _; (with_reducible repeat (first | refine kN_ ?_ _ | refine kD_ ?_ | refine kA_ ?_ _)); exact BK400.out) Try.underlying116 rfl (by kernel_rfl)) rfl ?_
         exact ⟨by first | rfl | (simp [errW_none, errW_some] <;> rfl) | (simp [*, errW_none, errW_some] <;> rfl), by repeat (first | (with_reducible first | exact HB.out | apply bA_ | apply bN_ | apply bD_ | refine bE_ ?_ GE400.out | refine bE_ ?_ GE404.out) | exact HB.out)⟩
       ·rw [if_neg c32] at H
        exact absurd H (by simp)
      ·rw [if_neg c31] at H
       have c31b0 : decide (t402 < (l0.length : Int)) = false := decide_eq_false c31
       clear c31
       by_cases c40 : t403 = true
       ·subst c40
        have H1 : (some (t401, 0, (⟨#[]⟩ : ByteArray), t402, decide (t402 < (l0.length : Int)))) = some (r1, r2, r3, r4, r5) := by rw [if_pos rfl] at H; exact H
        clear H
        have H := H1
        clear H1
        simp only [Option.some.injEq, Prod.mk.injEq] at H
        obtain ⟨rfl, rfl, rfl, rfl, rfl⟩ := H
        have hnb41 := NB404_400.out
        have hnc41 := NB400_404.out
        have hcz42_0 : wc.cell? ⟨gb404, 0, none⟩ = some (.int .i64 t401) := (kC_ BK404.out 0).trans rfl
        have hcz42_1 : wc.cell? ⟨gb404, 1, none⟩ = some (.int .i64 0) := (kC_ BK404.out 1).trans rfl
        have hcz42_2 : wc.cell? ⟨gb404, 2, none⟩ = some (.string (⟨#[]⟩ : ByteArray)) := (kC_ BK404.out 2).trans rfl
        have hfz42_0 := kF_ BK404.out 0
        have hfz42_1 := kF_ BK404.out 1
        have hfz42_2 := kF_ BK404.out 2
        have hcz43_0 : wc.cell? ⟨gb400, 0, none⟩ = some (.int .i64 0) := (kC_ BK400.out 0).trans rfl
        have hcz43_1 : wc.cell? ⟨gb400, 1, none⟩ = some (.int .i64 0) := (kC_ BK400.out 1).trans rfl
        have hcz43_2 : wc.cell? ⟨gb400, 2, none⟩ = some (.string (⟨#[]⟩ : ByteArray)) := (kC_ BK400.out 2).trans rfl
        have hfz43_0 := kF_ BK400.out 0
        have hfz43_1 := kF_ BK400.out 1
        have hfz43_2 := kF_ BK400.out 2
        go_wp2
        refine bodyPost_ret (results_ctt rfl _ _ gb400 116 #[.int .i64 t401, .int .i64 0, .string (⟨#[]⟩ : ByteArray)] (0, 0) _ rfl (by (with_reducible repeat (first | refine kN_ ?_ _ | refine kD_ ?_ | refine kA_ ?_ _)); refine blk_put (cs := #[.int .i64 t401, .int .i64 0, .string (⟨#[]⟩ : ByteArray)]) ?_ 2 _ rfl; (with_reducible repeat (first | refine kN_ ?_ _ | refine kD_ ?_ | refine kA_ ?_ _)); refine blk_put (cs := #[.int .i64 t401, .int .i64 0, .string (⟨#[]⟩ : ByteArray)]) ?_ 1 _ rfl; (with_reducible repeat (first | refine kN_ ?_ _ | refine kD_ ?_ | refine kA_ ?_ _)); refine blk_put (cs := #[.int .i64 0, .int .i64 0, .string (⟨#[]⟩ : ByteArray)]) ?_ 0 _ rfl; (with_reducible repeat (first | refine kN_ ?_ _ | refine kD_ ?_ | refine kA_ ?_ _)); exact BK400.out) Try.underlying116 rfl (by kernel_rfl)) rfl ?_
        exact ⟨by first | rfl | (simp [errW_none, errW_some] <;> rfl) | (simp [*, errW_none, errW_some] <;> rfl), by repeat (first | (with_reducible first | exact HB.out | apply bA_ | apply bN_ | apply bD_ | refine bE_ ?_ GE400.out | refine bE_ ?_ GE404.out) | exact HB.out)⟩
       ·replace c40 := Bool.eq_false_iff.mpr c40
        subst c40
        have H1 : (some (t401, 0, (⟨#[]⟩ : ByteArray), t402, false)) = some (r1, r2, r3, r4, r5) := by rw [if_neg (show ¬ (false = true) by decide)] at H; exact H
        clear H
        have H := H1
        clear H1
        simp only [Option.some.injEq, Prod.mk.injEq] at H
        obtain ⟨rfl, rfl, rfl, rfl, rfl⟩ := H
        have hnb44 := NB404_400.out
        have hnc44 := NB400_404.out
        have hcz45_0 : wc.cell? ⟨gb404, 0, none⟩ = some (.int .i64 t401) := (kC_ BK404.out 0).trans rfl
        have hcz45_1 : wc.cell? ⟨gb404, 1, none⟩ = some (.int .i64 0) := (kC_ BK404.out 1).trans rfl
        have hcz45_2 : wc.cell? ⟨gb404, 2, none⟩ = some (.string (⟨#[]⟩ : ByteArray)) := (kC_ BK404.out 2).trans rfl
        have hfz45_0 := kF_ BK404.out 0
        have hfz45_1 := kF_ BK404.out 1
        have hfz45_2 := kF_ BK404.out 2
        have hcz46_0 : wc.cell? ⟨gb400, 0, none⟩ = some (.int .i64 0) := (kC_ BK400.out 0).trans rfl
        have hcz46_1 : wc.cell? ⟨gb400, 1, none⟩ = some (.int .i64 0) := (kC_ BK400.out 1).trans rfl
        have hcz46_2 : wc.cell? ⟨gb400, 2, none⟩ = some (.string (⟨#[]⟩ : ByteArray)) := (kC_ BK400.out 2).trans rfl
        have hfz46_0 := kF_ BK400.out 0
        have hfz46_1 := kF_ BK400.out 1
        have hfz46_2 := kF_ BK400.out 2
        go_wp2
        refine bodyPost_ret (results_ctt rfl _ _ gb400 116 #[.int .i64 t401, .int .i64 0, .string (⟨#[]⟩ : ByteArray)] (0, 0) _ rfl (by (with_reducible repeat (first | refine kN_ ?_ _ | refine kD_ ?_ | refine kA_ ?_ _)); refine blk_put (cs := #[.int .i64 t401, .int .i64 0, .string (⟨#[]⟩ : ByteArray)]) ?_ 2 _ rfl; (with_reducible repeat (first | refine kN_ ?_ _ | refine kD_ ?_ | refine kA_ ?_ _)); refine blk_put (cs := #[.int .i64 t401, .int .i64 0, .string (⟨#[]⟩ : ByteArray)]) ?_ 1 _ rfl; (with_reducible repeat (first | refine kN_ ?_ _ | refine kD_ ?_ | refine kA_ ?_ _)); refine blk_put (cs := #[.int .i64 0, .int .i64 0, .string (⟨#[]⟩ : ByteArray)]) ?_ 0 _ rfl; (with_reducible repeat (first | refine kN_ ?_ _ | refine kD_ ?_ | refine kA_ ?_ _)); exact BK400.out) Try.underlying116 rfl (by kernel_rfl)) rfl ?_
        exact ⟨by first | rfl | (simp [errW_none, errW_some] <;> rfl) | (simp [*, errW_none, errW_some] <;> rfl), by repeat (first | (with_reducible first | exact HB.out | apply bA_ | apply bN_ | apply bD_ | refine bE_ ?_ GE400.out | refine bE_ ?_ GE404.out) | exact HB.out)⟩
     ·rw [if_neg c30] at H
      have c30b0 : (t401 == 4) = false := beq_eq_false_iff_ne.mpr c30
      have c30b1 : (t401 != 4) = true := bne_iff_ne.mpr c30
      by_cases c47 : t403 = true
      ·subst c47
       have H1 : (some (t401, 0, (⟨#[]⟩ : ByteArray), t402, true)) = some (r1, r2, r3, r4, r5) := by rw [if_pos rfl] at H; exact H
       clear H
       have H := H1
       clear H1
       simp only [Option.some.injEq, Prod.mk.injEq] at H
       obtain ⟨rfl, rfl, rfl, rfl, rfl⟩ := H
       have hnb48 := NB404_400.out
       have hnc48 := NB400_404.out
       have hcz49_0 : wc.cell? ⟨gb404, 0, none⟩ = some (.int .i64 t401) := (kC_ BK404.out 0).trans rfl
       have hcz49_1 : wc.cell? ⟨gb404, 1, none⟩ = some (.int .i64 0) := (kC_ BK404.out 1).trans rfl
       have hcz49_2 : wc.cell? ⟨gb404, 2, none⟩ = some (.string (⟨#[]⟩ : ByteArray)) := (kC_ BK404.out 2).trans rfl
       have hfz49_0 := kF_ BK404.out 0
       have hfz49_1 := kF_ BK404.out 1
       have hfz49_2 := kF_ BK404.out 2
       have hcz50_0 : wc.cell? ⟨gb400, 0, none⟩ = some (.int .i64 0) := (kC_ BK400.out 0).trans rfl
       have hcz50_1 : wc.cell? ⟨gb400, 1, none⟩ = some (.int .i64 0) := (kC_ BK400.out 1).trans rfl
       have hcz50_2 : wc.cell? ⟨gb400, 2, none⟩ = some (.string (⟨#[]⟩ : ByteArray)) := (kC_ BK400.out 2).trans rfl
       have hfz50_0 := kF_ BK400.out 0
       have hfz50_1 := kF_ BK400.out 1
       have hfz50_2 := kF_ BK400.out 2
       go_wp2
       refine bodyPost_ret (results_ctt rfl _ _ gb400 116 #[.int .i64 t401, .int .i64 0, .string (⟨#[]⟩ : ByteArray)] (0, 0) _ rfl (by (with_reducible repeat (first | refine kN_ ?_ _ | refine kD_ ?_ | refine kA_ ?_ _)); refine blk_put (cs := #[.int .i64 t401, .int .i64 0, .string (⟨#[]⟩ : ByteArray)]) ?_ 2 _ rfl; (with_reducible repeat (first | refine kN_ ?_ _ | refine kD_ ?_ | refine kA_ ?_ _)); refine blk_put (cs := #[.int .i64 t401, .int .i64 0, .string (⟨#[]⟩ : ByteArray)]) ?_ 1 _ rfl; (with_reducible repeat (first | refine kN_ ?_ _ | refine kD_ ?_ | refine kA_ ?_ _)); refine blk_put (cs := #[.int .i64 0, .int .i64 0, .string (⟨#[]⟩ : ByteArray)]) ?_ 0 _ rfl; (with_reducible repeat (first | refine kN_ ?_ _ | refine kD_ ?_ | refine kA_ ?_ _)); exact BK400.out) Try.underlying116 rfl (by kernel_rfl)) rfl ?_
       exact ⟨by first | rfl | (simp [errW_none, errW_some] <;> rfl) | (simp [*, errW_none, errW_some] <;> rfl), by repeat (first | (with_reducible first | exact HB.out | apply bA_ | apply bN_ | apply bD_ | refine bE_ ?_ GE400.out | refine bE_ ?_ GE404.out) | exact HB.out)⟩
      ·replace c47 := Bool.eq_false_iff.mpr c47
       subst c47
       have H1 : (some (t401, 0, (⟨#[]⟩ : ByteArray), t402, false)) = some (r1, r2, r3, r4, r5) := by rw [if_neg (show ¬ (false = true) by decide)] at H; exact H
       clear H
       have H := H1
       clear H1
       simp only [Option.some.injEq, Prod.mk.injEq] at H
       obtain ⟨rfl, rfl, rfl, rfl, rfl⟩ := H
       have hnb51 := NB404_400.out
       have hnc51 := NB400_404.out
       have hcz52_0 : wc.cell? ⟨gb404, 0, none⟩ = some (.int .i64 t401) := (kC_ BK404.out 0).trans rfl
       have hcz52_1 : wc.cell? ⟨gb404, 1, none⟩ = some (.int .i64 0) := (kC_ BK404.out 1).trans rfl
       have hcz52_2 : wc.cell? ⟨gb404, 2, none⟩ = some (.string (⟨#[]⟩ : ByteArray)) := (kC_ BK404.out 2).trans rfl
       have hfz52_0 := kF_ BK404.out 0
       have hfz52_1 := kF_ BK404.out 1
       have hfz52_2 := kF_ BK404.out 2
       have hcz53_0 : wc.cell? ⟨gb400, 0, none⟩ = some (.int .i64 0) := (kC_ BK400.out 0).trans rfl
       have hcz53_1 : wc.cell? ⟨gb400, 1, none⟩ = some (.int .i64 0) := (kC_ BK400.out 1).trans rfl
       have hcz53_2 : wc.cell? ⟨gb400, 2, none⟩ = some (.string (⟨#[]⟩ : ByteArray)) := (kC_ BK400.out 2).trans rfl
       have hfz53_0 := kF_ BK400.out 0
       have hfz53_1 := kF_ BK400.out 1
       have hfz53_2 := kF_ BK400.out 2
       go_wp2
       refine bodyPost_ret (results_ctt rfl _ _ gb400 116 #[.int .i64 t401, .int .i64 0, .string (⟨#[]⟩ : ByteArray)] (0, 0) _ rfl (by (with_reducible repeat (first | refine kN_ ?_ _ | refine kD_ ?_ | refine kA_ ?_ _)); refine blk_put (cs := #[.int .i64 t401, .int .i64 0, .string (⟨#[]⟩ : ByteArray)]) ?_ 2 _ rfl; (with_reducible repeat (first | refine kN_ ?_ _ | refine kD_ ?_ | refine kA_ ?_ _)); refine blk_put (cs := #[.int .i64 t401, .int .i64 0, .string (⟨#[]⟩ : ByteArray)]) ?_ 1 _ rfl; (with_reducible repeat (first | refine kN_ ?_ _ | refine kD_ ?_ | refine kA_ ?_ _)); refine blk_put (cs := #[.int .i64 0, .int .i64 0, .string (⟨#[]⟩ : ByteArray)]) ?_ 0 _ rfl; (with_reducible repeat (first | refine kN_ ?_ _ | refine kD_ ?_ | refine kA_ ?_ _)); exact BK400.out) Try.underlying116 rfl (by kernel_rfl)) rfl ?_
       exact ⟨by first | rfl | (simp [errW_none, errW_some] <;> rfl) | (simp [*, errW_none, errW_some] <;> rfl), by repeat (first | (with_reducible first | exact HB.out | apply bA_ | apply bN_ | apply bD_ | refine bE_ ?_ GE400.out | refine bE_ ?_ GE404.out) | exact HB.out)⟩

/-! ### spec_DecodeRow: function 50 -/
mutual
def spec_DecodeRow.l0 : Nat → List (S119) → List Int → Bool → Int → Int → Bool → List (S116) → Int → Option ((List (S116)) × Bool)
 | 0, _, _, _, _, _, _, _, _ => none
 | k + 1, x0, x6, x7, x8, x9, x10, x11, x12 => if x7 = true then (if x10 = true then (if x12 < x8 then (spec_DecodeRow.j1 k x0 x6 x7 x8 x9 x10 x11 x12 (decide (x12 < 7))) else (spec_DecodeRow.j1 k x0 x6 x7 x8 x9 x10 x11 x12 false)) else (spec_DecodeRow.j1 k x0 x6 x7 x8 x9 x10 x11 x12 false)) else (spec_DecodeRow.j1 k x0 x6 x7 x8 x9 x10 x11 x12 false)
def spec_DecodeRow.j1 : Nat → List (S119) → List Int → Bool → Int → Int → Bool → List (S116) → Int → Bool → Option ((List (S116)) × Bool)
 | 0, _, _, _, _, _, _, _, _, _ => none
 | k + 1, x0, x6, x7, x8, x9, x10, x11, x12, x40 => if x40 = true then ((spec_l7Val.f k x6 x9).bind fun bt422 => (if bt422.2.2.2.2 = true then (if x11.length < 4398046511104 then (spec_DecodeRow.l0 k x0 x6 x7 x8 bt422.2.2.2.1 x10 (x11 ++ [(⟨bt422.1, bt422.2.1, bt422.2.2.1⟩ : S116)]) (wrap64 (x12 + 1))) else (none)) else (some ((([] : List (S116))), false)))) else (if x7 = true then (if x10 = true then (if x9 = (x6.length : Int) then (if x8 = (x11.length : Int) then ((spec_RowOk.f k x0 x11).bind fun t434 => (if t434 = true then (some (x11, true)) else (some ((([] : List (S116))), false)))) else (some ((([] : List (S116))), false))) else (some ((([] : List (S116))), false))) else (some ((([] : List (S116))), false))) else (some ((([] : List (S116))), false)))
end
def spec_DecodeRow.f (k : Nat) (l0 : List (S119)) (l1 : List Int) : Option ((List (S116)) × Bool) := (spec_GetSum.f k l1).bind fun bt412 => ((spec_GetU.f k bt412.1 0).bind fun bt416 => (spec_DecodeRow.l0 k l0 bt412.1 bt412.2 bt416.1 bt416.2.1 bt416.2.2 (([] : List (S116))) 0))
theorem spec_DecodeRow.mono_l : ∀ k, (∀ y0 y1 y2 y3 y4 y5 y6 y7, LeO (spec_DecodeRow.l0 k y0 y1 y2 y3 y4 y5 y6 y7) (spec_DecodeRow.l0 (k + 1) y0 y1 y2 y3 y4 y5 y6 y7)) ∧ (∀ y0 y1 y2 y3 y4 y5 y6 y7 y8, LeO (spec_DecodeRow.j1 k y0 y1 y2 y3 y4 y5 y6 y7 y8) (spec_DecodeRow.j1 (k + 1) y0 y1 y2 y3 y4 y5 y6 y7 y8))
 | 0 => ⟨fun _ _ _ _ _ _ _ _ r h => by simp [spec_DecodeRow.l0] at h, fun _ _ _ _ _ _ _ _ _ r h => by simp [spec_DecodeRow.j1] at h⟩
 | k + 1 => by
  obtain ⟨ih0, ih1⟩ := spec_DecodeRow.mono_l k
  refine ⟨?_, ?_⟩
  ·intro y0 y1 y2 y3 y4 y5 y6 y7
   unfold spec_DecodeRow.l0
   repeat' first
   | (with_reducible exact ih0 _ _ _ _ _ _ _ _)
   | (with_reducible exact ih1 _ _ _ _ _ _ _ _ _)
   | (with_reducible exact spec_GetSum.mono _ _)
   | (with_reducible exact spec_GetU.mono _ _ _)
   | (with_reducible exact spec_RowOk.mono _ _ _)
   | (with_reducible exact spec_l7Val.mono _ _ _)
   | (with_reducible exact LeO.refl _)
   | (with_reducible exact LeO.none _)
   | (with_reducible refine LeO.ite ?_ ?_)
   | (with_reducible refine LeO.bind ?_ (fun _ => ?_))
   | exact ih0 _ _ _ _ _ _ _ _
   | exact ih1 _ _ _ _ _ _ _ _ _
   | exact spec_GetSum.mono _ _
   | exact spec_GetU.mono _ _ _
   | exact spec_RowOk.mono _ _ _
   | exact spec_l7Val.mono _ _ _
   | exact LeO.none _
   | refine LeO.ite ?_ ?_
   | refine LeO.bind ?_ (fun _ => ?_)
  ·intro y0 y1 y2 y3 y4 y5 y6 y7 y8
   unfold spec_DecodeRow.j1
   repeat' first
   | (with_reducible exact ih0 _ _ _ _ _ _ _ _)
   | (with_reducible exact ih1 _ _ _ _ _ _ _ _ _)
   | (with_reducible exact spec_GetSum.mono _ _)
   | (with_reducible exact spec_GetU.mono _ _ _)
   | (with_reducible exact spec_RowOk.mono _ _ _)
   | (with_reducible exact spec_l7Val.mono _ _ _)
   | (with_reducible exact LeO.refl _)
   | (with_reducible exact LeO.none _)
   | (with_reducible refine LeO.ite ?_ ?_)
   | (with_reducible refine LeO.bind ?_ (fun _ => ?_))
   | exact ih0 _ _ _ _ _ _ _ _
   | exact ih1 _ _ _ _ _ _ _ _ _
   | exact spec_GetSum.mono _ _
   | exact spec_GetU.mono _ _ _
   | exact spec_RowOk.mono _ _ _
   | exact spec_l7Val.mono _ _ _
   | exact LeO.none _
   | refine LeO.ite ?_ ?_
   | refine LeO.bind ?_ (fun _ => ?_)
theorem spec_DecodeRow.mono : ∀ a0 a1 k, LeO (spec_DecodeRow.f k a0 a1) (spec_DecodeRow.f (k + 1) a0 a1) := by
 intro a0 a1 k
 obtain ⟨ih0, ih1⟩ := spec_DecodeRow.mono_l k
 unfold spec_DecodeRow.f
 repeat' first
   | (with_reducible exact ih0 _ _ _ _ _ _ _ _)
   | (with_reducible exact ih1 _ _ _ _ _ _ _ _ _)
   | (with_reducible exact spec_GetSum.mono _ _)
   | (with_reducible exact spec_GetU.mono _ _ _)
   | (with_reducible exact spec_RowOk.mono _ _ _)
   | (with_reducible exact spec_l7Val.mono _ _ _)
   | (with_reducible exact LeO.refl _)
   | (with_reducible exact LeO.none _)
   | (with_reducible refine LeO.ite ?_ ?_)
   | (with_reducible refine LeO.bind ?_ (fun _ => ?_))
   | exact ih0 _ _ _ _ _ _ _ _
   | exact ih1 _ _ _ _ _ _ _ _ _
   | exact spec_GetSum.mono _ _
   | exact spec_GetU.mono _ _ _
   | exact spec_RowOk.mono _ _ _
   | exact spec_l7Val.mono _ _ _
   | exact LeO.none _
   | refine LeO.ite ?_ ?_
   | refine LeO.bind ?_ (fun _ => ?_)
set_option maxHeartbeats 8000000 in
set_option maxRecDepth 100000 in
theorem spec_DecodeRow.calls (k : Nat) (A0 : Option Addr) (c0 : Nat) (l0 : List (S119)) (A1 : Option Addr) (c1 : Nat) (l1 : List Int) (r1 : List (S116)) (r2 : Bool) (w : World) (hr0 : Kd.C k119 w A0 l0.length l0) (hc0 : l0.length ≤ c0) (hr1 : Kd.C (Kd.int .u8) w A1 l1.length l1) (hc1 : l1.length ≤ c1) (h : spec_DecodeRow.f k l0 l1 = some (r1, r2)) :
  Calls Try.prog 50 #[.slice A0 l0.length c0, .slice A1 l1.length c1] w fun e w' => ∃ v0_ : Value, e = .returned (.tuple #[v0_, .bool r2]) ∧ Kd.R k116 116 w' w.heap.size (fun _ => True) v0_ r1 ∧ Below w.heap.size w w' := by
 have hu116 := Try.underlying116
 have HR0 := aM_ hr0
 have HC0 := aM_ hc0
 clear hr0 hc0
 have HR1 := aM_ hr1
 have HC1 := aM_ hc1
 clear hr1 hc1
 have HB := aM_ (Below.refl w.heap.size w)
 have H : ((spec_GetSum.f k l1).bind fun bt412 => ((spec_GetU.f k bt412.1 0).bind fun bt416 => (spec_DecodeRow.l0 k l0 bt412.1 bt412.2 bt416.1 bt416.2.1 bt416.2.2 (([] : List (S116))) 0))) = some (r1, r2) := h
 clear h
 replace H := Option.bind_eq_some_iff.mp H
 obtain ⟨⟨t412, t413⟩, A30, H⟩ := H
 replace H : ((spec_GetU.f k t412 0).bind fun bt416 => (spec_DecodeRow.l0 k l0 t412 t413 bt416.1 bt416.2.1 bt416.2.2 (([] : List (S116))) 0)) = some (r1, r2) := H
 have A3 := aM_ A30
 clear A30
 replace H := Option.bind_eq_some_iff.mp H
 obtain ⟨⟨t416, t417, t418⟩, A40, H⟩ := H
 replace H : (spec_DecodeRow.l0 k l0 t412 t413 t416 t417 t418 (([] : List (S116))) 0) = some (r1, r2) := H
 have A4 := aM_ A40
 clear A40
 obtain ⟨y419, hy419⟩ : ∃ y_ : List (S116), y_ = (([] : List (S116))) := ⟨_, rfl⟩
 replace H : (spec_DecodeRow.l0 k l0 t412 t413 t416 t417 t418 y419 0) = some (r1, r2) := by first | (rw [hy419]; with_reducible exact H) | (have H2_ := (Option.bind_some _ _).symm.trans H; rw [hy419]; with_reducible exact H2_) | (have H2_ := (Option.bind_some _ _).symm.trans H; with_reducible exact H2_) | with_reducible exact H | (rw [hy419]; exact H) | exact H
 have Ny419 := aM_ hy419
 clear hy419
 have H' := aM_ H
 clear H
 go_enter Try.func50, Try.ntmps50
 go_wp2_with (first | ((with_reducible refine gate_callee (f := 116) rfl ?_); refine goesL_ (some 18) rfl rfl Try.func116 (by kernel_rfl) rfl #[.slice A1 l1.length c1] rfl (by (try simp only [List.map_toArray, List.map_cons, List.map_nil]); first | done | rfl | (simp only [List.length_drop, List.length_take]; rfl)) ?_; (with_reducible refine (spec_GetSum.calls k _ _ l1 t412 t413 _ ?side1 ?side2 A3.out).mono ?_); (case side1 => repeat (first | exact HR1.out | (with_reducible refine cA_ ?_ _) | (with_reducible refine cN_ ?_ _) | (with_reducible refine cD_ ?_))); (case side2 => exact HC1.out); rintro e w5 ⟨v414, rfl, ho0, hb⟩; refine ⟨_, rfl, ?_⟩; have n0_ := aM_ (Kd.R_lower ho0 (bS_ (by repeat (first | (with_reducible first | exact HB.out | apply bA_ | apply bN_ | apply bD_) | exact HB.out)))); have n1_ := aM_ (bT_ (by repeat (first | (with_reducible first | exact HB.out | apply bA_ | apply bN_ | apply bD_) | exact HB.out)) hb); clear HB; have HO415 := n0_; have HB := n1_; clear n0_ n1_; (try clear hb); (try clear hb2); (try clear hk); (try clear hi); (try clear ho0); obtain ⟨Ao6, co6, eo6⟩ := Kd.R_slice HO415.out; subst eo6) | ((with_reducible refine gate_callee (f := 117) rfl ?_); refine goesL_ (some 23) rfl rfl Try.func117 (by kernel_rfl) rfl #[.slice Ao6 t412.length co6, .int .i64 0] rfl (by (try simp only [List.map_toArray, List.map_cons, List.map_nil]); first | done | rfl | (simp only [List.length_drop, List.length_take]; rfl)) ?_; (with_reducible refine (spec_GetU.calls k _ _ t412 0 t416 t417 t418 _ ?side1 ?side2 A4.out).mono ?_); (case side1 => repeat (first | exact (Kd.R_reads' HO415.out).2.2 | (with_reducible refine cA_ ?_ _) | (with_reducible refine cN_ ?_ _) | (with_reducible refine cD_ ?_))); (case side2 => exact (Kd.R_reads' HO415.out).2.1); rintro e w' ⟨rfl, ⟨nd, rfl⟩⟩; refine ⟨_, rfl, ?_⟩) | ((with_reducible refine gate_dst (N := 27) rfl ?_); (try (refine gate_guard (by rfl) ?_; dsimp only)); refine Kd.R_lit k116 _ 116 ?hg (N := 27) ?hd (xs := ([] : List (S116))) (inner := []) (ok := fun _ => True) (okp := fun _ => True) ?hr ?hp (fun _ hk => hk) trivial (Below.refl _ _) (Nat.le_refl _) (by simp) ?_; (case hd => rfl); (case hg => rfl); (case hr => first | (go_simp; done) | (go_simp; rfl)); (case hp => exact (Reps.none _ _)); intro v420 w7 ho8 hb hg_ hnew_; clear hg_ hnew_; (first | rw [← Ny419.out] at ho8 | (simp only [Int.reduceToNat] at ho8; rw [← Ny419.out] at ho8)); have n0_ := aM_ (Kd.R_below (by (with_reducible repeat (first | apply rA_ | apply rN_ | apply rD_)); exact HO415.out) hb); have n1_ := aM_ (Kd.R_lower ho8 (bS_ (by repeat (first | (with_reducible first | exact HB.out | apply bA_ | apply bN_ | apply bD_) | exact HB.out)))); have n2_ := aM_ (bT_ (by repeat (first | (with_reducible first | exact HB.out | apply bA_ | apply bN_ | apply bD_) | exact HB.out)) hb); clear HO415; clear HB; have HO415 := n0_; have HO421 := n1_; have HB := n2_; clear n0_ n1_ n2_; clear hb ho8))
 (try simp only [Act.put, List.setIfInBounds_toArray, List.set_cons_succ, List.set_cons_zero])
 go_loopg [9, 11, 12] k (fun kq v9 v11 v12 w' => ∃ (x9_1 : Int) (x11_1 : List (S116)) (x12_1 : Int), v9 = .int .i64 x9_1 ∧ v12 = .int .i64 x12_1 ∧ Aside0 (spec_DecodeRow.l0 kq l0 t412 t413 t416 x9_1 t418 x11_1 x12_1 = some (r1, r2)) ∧ Aside0 (kq ≤ k) ∧ Aside0 (Kd.R (Kd.int .u8) 5 w' w.heap.size (fun _ => True) (.slice Ao6 t412.length co6) t412) ∧ Aside0 (Kd.R k116 116 w' w.heap.size (fun _ => True) v11 x11_1) ∧ Aside0 (Below w.heap.size w w'))
 case atStart => exact ⟨(t417), (y419), (0), (by first | rfl | (simp; done) | (simp [*]; done)), (by first | rfl | (simp; done) | (simp [*]; done)), H', ⟨Nat.le_refl _⟩, ⟨by (with_reducible repeat (first | apply rA_ | apply rN_ | apply rD_)); exact HO415.out⟩, ⟨by (with_reducible repeat (first | apply rA_ | apply rN_ | apply rD_)); exact HO421.out⟩, ⟨by repeat (first | (with_reducible first | exact HB.out | apply bA_ | apply bN_ | apply bD_) | exact HB.out)⟩⟩
 case round =>
  clear H'
  try clear c1
  try clear p2
  try clear c5
  obtain ⟨x9_1, x11_1, x12_1, rfl, rfl, HA, HK1, HO_6, HO_11, HB⟩ := hrel
  cases gk with
  | zero => exact absurd HA.out (by simp [spec_DecodeRow.l0])
  | succ k1 =>
   have H := HA.out
   clear HA
   simp only [spec_DecodeRow.l0] at H
   have HC9 := aM_ H
   clear H
   go_upto_region 5 with (fail)
   go_cut [40] (fun v40 wc => ∃ (kq : Nat) (x40_8 : Bool), v40 = .bool x40_8 ∧ Aside0 (spec_DecodeRow.j1 kq l0 t412 t413 t416 x9_1 t418 x11_1 x12_1 x40_8 = some (r1, r2)) ∧ Aside0 (kq ≤ k1) ∧ Aside0 (Kd.R (Kd.int .u8) 5 wc w.heap.size (fun _ => True) (.slice Ao6 t412.length co6) t412) ∧ Aside0 (Kd.R k116 116 wc w.heap.size (fun _ => True) u11 x11_1) ∧ Aside0 (Below w.heap.size w wc))
   case first =>
    have H := HC9.out
    clear HC9
    by_cases c10 : t413 = true
    ·subst c10
     have H1 : (if t418 = true then (if x12_1 < t416 then (spec_DecodeRow.j1 k1 l0 t412 true t416 x9_1 t418 x11_1 x12_1 (decide (x12_1 < 7))) else (spec_DecodeRow.j1 k1 l0 t412 true t416 x9_1 t418 x11_1 x12_1 false)) else (spec_DecodeRow.j1 k1 l0 t412 true t416 x9_1 t418 x11_1 x12_1 false)) = some (r1, r2) := by rw [if_pos rfl] at H; exact H
     clear H
     have H := H1
     clear H1
     by_cases c11 : t418 = true
     ·subst c11
      have H1 : (if x12_1 < t416 then (spec_DecodeRow.j1 k1 l0 t412 true t416 x9_1 true x11_1 x12_1 (decide (x12_1 < 7))) else (spec_DecodeRow.j1 k1 l0 t412 true t416 x9_1 true x11_1 x12_1 false)) = some (r1, r2) := by rw [if_pos rfl] at H; exact H
      clear H
      have H := H1
      clear H1
      by_cases c12 : x12_1 < t416
      ·rw [if_pos c12] at H
       have c12b0 : decide (x12_1 < t416) = true := decide_eq_true c12
       clear c12
       (first | rw [c12b0] | (simp only [i64_w, i32_w]; rw [c12b0]) | skip)
       have H' := aM_ H
       clear H
       go_wp2
       (first | go_meet | (refine Met.intro ?_; go_step; (repeat apply Exists.intro); refine ⟨?rel, ?eq⟩; (case eq => (try simp only [c9b0]); (try simp only [c9b0]); (try simp only [c12b0]); rfl)))
       case rel => exact ⟨_, (decide (x12_1 < 7)), (by first | rfl | (simp; done) | (simp [*]; done)), H', ⟨by have := HK1.out; first | omega | exact Nat.le_refl _⟩, ⟨by (with_reducible repeat (first | apply rA_ | apply rN_ | apply rD_)); exact HO_6.out⟩, ⟨by (with_reducible repeat (first | apply rA_ | apply rN_ | apply rD_)); exact HO_11.out⟩, ⟨by repeat (first | (with_reducible first | exact HB.out | apply bA_ | apply bN_ | apply bD_) | exact HB.out)⟩⟩
      ·rw [if_neg c12] at H
       have c12b0 : decide (x12_1 < t416) = false := decide_eq_false c12
       clear c12
       (first | rw [c12b0] | (simp only [i64_w, i32_w]; rw [c12b0]) | skip)
       have H' := aM_ H
       clear H
       go_wp2
       (first | go_meet | (refine Met.intro ?_; go_step; (repeat apply Exists.intro); refine ⟨?rel, ?eq⟩; (case eq => (try simp only [c9b0]); (try simp only [c12b0]); (try simp only [c12b0]); rfl)))
       case rel => exact ⟨_, (false), (by first | rfl | (simp; done) | (simp [*]; done)), H', ⟨by have := HK1.out; first | omega | exact Nat.le_refl _⟩, ⟨by (with_reducible repeat (first | apply rA_ | apply rN_ | apply rD_)); exact HO_6.out⟩, ⟨by (with_reducible repeat (first | apply rA_ | apply rN_ | apply rD_)); exact HO_11.out⟩, ⟨by repeat (first | (with_reducible first | exact HB.out | apply bA_ | apply bN_ | apply bD_) | exact HB.out)⟩⟩
     ·replace c11 := Bool.eq_false_iff.mpr c11
      subst c11
      have H1 : (spec_DecodeRow.j1 k1 l0 t412 true t416 x9_1 false x11_1 x12_1 false) = some (r1, r2) := by rw [if_neg (show ¬ (false = true) by decide)] at H; exact H
      clear H
      have H := H1
      clear H1
      have H' := aM_ H
      clear H
      go_wp2
      (first | go_meet | (refine Met.intro ?_; go_step; (repeat apply Exists.intro); refine ⟨?rel, ?eq⟩; (case eq => (try simp only [c9b0]); (try simp only [c12b0]); (try simp only [c12b0]); rfl)))
      case rel => exact ⟨_, (false), (by first | rfl | (simp; done) | (simp [*]; done)), H', ⟨by have := HK1.out; first | omega | exact Nat.le_refl _⟩, ⟨by (with_reducible repeat (first | apply rA_ | apply rN_ | apply rD_)); exact HO_6.out⟩, ⟨by (with_reducible repeat (first | apply rA_ | apply rN_ | apply rD_)); exact HO_11.out⟩, ⟨by repeat (first | (with_reducible first | exact HB.out | apply bA_ | apply bN_ | apply bD_) | exact HB.out)⟩⟩
    ·replace c10 := Bool.eq_false_iff.mpr c10
     subst c10
     have H1 : (spec_DecodeRow.j1 k1 l0 t412 false t416 x9_1 t418 x11_1 x12_1 false) = some (r1, r2) := by rw [if_neg (show ¬ (false = true) by decide)] at H; exact H
     clear H
     have H := H1
     clear H1
     have H' := aM_ H
     clear H
     go_wp2
     (first | go_meet | (refine Met.intro ?_; go_step; (repeat apply Exists.intro); refine ⟨?rel, ?eq⟩; (case eq => (try simp only [c9b0]); (try simp only [c12b0]); (try simp only [c12b0]); rfl)))
     case rel => exact ⟨_, (false), (by first | rfl | (simp; done) | (simp [*]; done)), H', ⟨by have := HK1.out; first | omega | exact Nat.le_refl _⟩, ⟨by (with_reducible repeat (first | apply rA_ | apply rN_ | apply rD_)); exact HO_6.out⟩, ⟨by (with_reducible repeat (first | apply rA_ | apply rN_ | apply rD_)); exact HO_11.out⟩, ⟨by repeat (first | (with_reducible first | exact HB.out | apply bA_ | apply bN_ | apply bD_) | exact HB.out)⟩⟩
   case rest =>
    clear HC9
    try clear c1
    try clear p2
    try clear c5
    try clear c9
    try clear c9b0
    try clear c10
    try clear c11
    try clear c12
    try clear c12b0
    try clear p2
    obtain ⟨kq, x40_8, rfl, HA, HJ8, HO_6, HO_11, HB⟩ := hcut
    cases kq with
    | zero => exact absurd HA.out (by simp [spec_DecodeRow.j1])
    | succ kj8 =>
     have H := HA.out
     clear HA
     simp only [spec_DecodeRow.j1] at H
     by_cases c13 : x40_8 = true
     ·subst c13
      have H1 : ((spec_l7Val.f kj8 t412 x9_1).bind fun bt422 => (if bt422.2.2.2.2 = true then (if x11_1.length < 4398046511104 then (spec_DecodeRow.l0 kj8 l0 t412 t413 t416 bt422.2.2.2.1 t418 (x11_1 ++ [(⟨bt422.1, bt422.2.1, bt422.2.2.1⟩ : S116)]) (wrap64 (x12_1 + 1))) else (none)) else (some ((([] : List (S116))), false)))) = some (r1, r2) := by rw [if_pos rfl] at H; exact H
      clear H
      have H := H1
      clear H1
      replace H := Option.bind_eq_some_iff.mp H
      obtain ⟨⟨t422, t423, t424, t425, t426⟩, A140, H⟩ := H
      replace H : (if t426 = true then (if x11_1.length < 4398046511104 then (spec_DecodeRow.l0 kj8 l0 t412 t413 t416 t425 t418 (x11_1 ++ [(⟨t422, t423, t424⟩ : S116)]) (wrap64 (x12_1 + 1))) else (none)) else (some ((([] : List (S116))), false))) = some (r1, r2) := H
      have A14 := aM_ A140
      clear A140
      by_cases c15 : t426 = true
      ·subst c15
       have H1 : (if x11_1.length < 4398046511104 then (spec_DecodeRow.l0 kj8 l0 t412 t413 t416 t425 t418 (x11_1 ++ [(⟨t422, t423, t424⟩ : S116)]) (wrap64 (x12_1 + 1))) else (none)) = some (r1, r2) := by rw [if_pos rfl] at H; exact H
       clear H
       have H := H1
       clear H1
       by_cases c16 : x11_1.length < 4398046511104
       ·rw [if_pos c16] at H
        have LMc16 := aM_ c16
        clear c16
        obtain ⟨y428, hy428⟩ : ∃ y_ : List (S116), y_ = (x11_1 ++ [(⟨t422, t423, t424⟩ : S116)]) := ⟨_, rfl⟩
        replace H : (spec_DecodeRow.l0 kj8 l0 t412 t413 t416 t425 t418 y428 (wrap64 (x12_1 + 1))) = some (r1, r2) := by first | (rw [hy428]; with_reducible exact H) | (have H2_ := (Option.bind_some _ _).symm.trans H; rw [hy428]; with_reducible exact H2_) | (have H2_ := (Option.bind_some _ _).symm.trans H; with_reducible exact H2_) | with_reducible exact H | (rw [hy428]; exact H) | exact H
        have Ny428 := aM_ hy428
        clear hy428
        have H' := aM_ H
        clear H
        go_wp2_with (first | ((with_reducible refine gate_callee (f := 118) rfl ?_); refine goesL_ (some 46) rfl rfl Try.func118 (by kernel_rfl) rfl #[.slice Ao6 t412.length co6, .int .i64 x9_1] rfl (by (try simp only [List.map_toArray, List.map_cons, List.map_nil]); first | done | rfl | (simp only [List.length_drop, List.length_take]; rfl)) ?_; (with_reducible refine (spec_l7Val.calls kj8 _ _ t412 x9_1 t422 t423 t424 t425 true _ ?side1 ?side2 A14.out).mono ?_); (case side1 => repeat (first | exact (Kd.R_reads' HO_6.out).2.2 | (with_reducible refine cA_ ?_ _) | (with_reducible refine cN_ ?_ _) | (with_reducible refine cD_ ?_))); (case side2 => exact (Kd.R_reads' HO_6.out).2.1); rintro e w17 ⟨rfl, hb⟩; refine ⟨_, rfl, ?_⟩; have n0_ := aM_ (Kd.R_below (by (with_reducible repeat (first | apply rA_ | apply rN_ | apply rD_)); exact HO_6.out) hb); have n1_ := aM_ (Kd.R_below (by (with_reducible repeat (first | apply rA_ | apply rN_ | apply rD_)); exact HO_11.out) hb); have n2_ := aM_ (bT_ (by repeat (first | (with_reducible first | exact HB.out | apply bA_ | apply bN_ | apply bD_) | exact HB.out)) hb); clear HO_6; clear HO_11; clear HB; have HO_6 := n0_; have HO_11 := n1_; have HB := n2_; clear n0_ n1_ n2_; (try clear hb); (try clear hb2); (try clear hk); (try clear hi)) | ((with_reducible refine gate_dst (N := 13) rfl ?_); (try (refine gate_guard (by rfl) ?_; dsimp only)); refine box_event ?hg (N := 13) ?hd (cs := #[.int .i64 0, .int .i64 0, .string (⟨#[]⟩ : ByteArray)]) (t := 116) ?hr ?_; (case hd => rfl); (case hg => rfl); (case hr => first | (go_simp; done) | (go_simp; rfl)); intro gb427 hg w18 hbox hb; have n0_ := aM_ (Kd.R_below (by (with_reducible repeat (first | apply rA_ | apply rN_ | apply rD_)); exact HO_6.out) hb); have n1_ := aM_ (Kd.R_below (Kd.R_elderB (by (with_reducible repeat (first | apply rA_ | apply rN_ | apply rD_)); exact HO_11.out) gb427 (Nat.le_of_eq hg.symm)) hb); have n2_ := aM_ (bT_ (by repeat (first | (with_reducible first | exact HB.out | apply bA_ | apply bN_ | apply bD_) | exact HB.out)) hb); have n3_ := aM_ (hbox); have n4_ := aM_ ((by rw [hg]; exact (bS_ (by repeat (first | (with_reducible first | exact HB.out | apply bA_ | apply bN_ | apply bD_) | exact HB.out))) : w.heap.size ≤ gb427)); have n5_ := aM_ ((by rw [hg]; exact (bS_ (by repeat (first | (with_reducible first | exact HB.out | apply bA_ | apply bN_ | apply bD_) | exact HB.out))) : w.heap.size ≤ gb427)); clear HO_6; clear HO_11; clear HB; have HO_6 := n0_; have HO_11 := n1_; have HB := n2_; have BK427 := n3_; have GW427 := n4_; have GE427 := n5_; clear n0_ n1_ n2_ n3_ n4_ n5_; clear hb hbox hg; have hcz19_0 : w18.cell? ⟨gb427, 0, none⟩ = some (.int .i64 0) := (kC_ BK427.out 0).trans rfl; have hcz19_1 : w18.cell? ⟨gb427, 1, none⟩ = some (.int .i64 0) := (kC_ BK427.out 1).trans rfl; have hcz19_2 : w18.cell? ⟨gb427, 2, none⟩ = some (.string (⟨#[]⟩ : ByteArray)) := (kC_ BK427.out 2).trans rfl; have hfz19_0 := kF_ BK427.out 0; have hfz19_1 := kF_ BK427.out 1; have hfz19_2 := kF_ BK427.out 2) | ((with_reducible refine gate_builtin (b := .append) (xs := #[.tmp 53, .tmp 55]) rfl ?_); (try (refine gate_guard (by rfl) ?_; dsimp only)); at_builtin; refine Kd.R_append k116 (w0 := w) w.heap.size rfl (.tmp 53) (.tmp 55) 50 116 (.agg #[(.int .i64 0), (.int .i64 0), (.string ⟨#[]⟩)]) 32 rfl Try.underlying50 info116 rfl (by decide) (by omega) u11 x11_1 (⟨t422, t423, t424⟩ : S116) [.int .i64 t422, .int .i64 t423, .string t424] (fun k_ => k_ ≠ gb427) (fun _ => False) rfl (by first | (go_simp; done) | (go_simp; rfl)) ?aP (fun _ hk => hk.elim) ?aF ?aO ?aB ?aS ?aL ?_; (case aP => exact k116_mkM _ _ _ (⟨t422, t423, t424⟩ : S116)); (case aB => exact (by repeat (first | (with_reducible first | exact HB.out | apply bA_ | apply bN_ | apply bD_ | refine bE_ ?_ GE427.out) | exact HB.out))); (case aF => exact (fun k_ hk => Kd.freshB (g := gb427) (o := .cells #[.int .i64 t422, .int .i64 t423, .string t424] 116 (0, 0)) (by (with_reducible repeat (first | refine kN_ ?_ _ | refine kD_ ?_ | refine kA_ ?_ _)); refine blk_put (cs := #[.int .i64 t422, .int .i64 t423, .string (⟨#[]⟩ : ByteArray)]) ?_ 2 _ rfl; (with_reducible repeat (first | refine kN_ ?_ _ | refine kD_ ?_ | refine kA_ ?_ _)); refine blk_put (cs := #[.int .i64 t422, .int .i64 0, .string (⟨#[]⟩ : ByteArray)]) ?_ 1 _ rfl; (with_reducible repeat (first | refine kN_ ?_ _ | refine kD_ ?_ | refine kA_ ?_ _)); refine blk_put (cs := #[.int .i64 0, .int .i64 0, .string (⟨#[]⟩ : ByteArray)]) ?_ 0 _ rfl; (with_reducible repeat (first | refine kN_ ?_ _ | refine kD_ ?_ | refine kA_ ?_ _)); exact BK427.out) k_ hk)); (case aO => exact (by (with_reducible repeat (first | apply rA_ | apply rN_ | apply rD_)); exact Kd.R_mono (Kd.R_far (p := ⟨gb427, 2, none⟩) (Kd.R_far (p := ⟨gb427, 1, none⟩) (Kd.R_far (p := ⟨gb427, 0, none⟩) (Kd.R_mono HO_11.out (fun k_ hk => (⟨hk, hk.2⟩ : _ ∧ k_ ≠ gb427))) (fun _ hk => hk.2) (.int .i64 t422)) (fun _ hk => hk.2) (.int .i64 t423)) (fun _ hk => hk.2) (.string t424)) (fun _ hk => hk.1.2))); (case aS => exact (bS_ (by repeat (first | (with_reducible first | exact HB.out | apply bA_ | apply bN_ | apply bD_ | refine bE_ ?_ GE427.out) | exact HB.out)))); (case aL => have := LMc16.out; omega); intro v429 w20 ho hb hg hat; rw [← Ny428.out] at ho; have n0_ := aM_ (Kd.R_over' (by (with_reducible repeat (first | apply rA_ | apply rN_ | apply rD_)); exact (Kd.R_mono (Kd.R_far (p := ⟨gb427, 2, none⟩) (Kd.R_far (p := ⟨gb427, 1, none⟩) (Kd.R_far (p := ⟨gb427, 0, none⟩) (Kd.R_types HO_6.out BK427.out (by decide)) (fun _ hk => hk.2) (.int .i64 t422)) (fun _ hk => hk.2) (.int .i64 t423)) (fun _ hk => hk.2) (.string t424)) (fun _ h_ => h_.1))) (Kd.R_typed (by (with_reducible repeat (first | apply rA_ | apply rN_ | apply rD_)); exact (Kd.R_mono (Kd.R_far (p := ⟨gb427, 2, none⟩) (Kd.R_far (p := ⟨gb427, 1, none⟩) (Kd.R_far (p := ⟨gb427, 0, none⟩) (Kd.R_mono HO_11.out (fun k_ hk => (⟨hk, hk.2⟩ : _ ∧ k_ ≠ gb427))) (fun _ hk => hk.2) (.int .i64 t422)) (fun _ hk => hk.2) (.int .i64 t423)) (fun _ hk => hk.2) (.string t424)) (fun _ h_ => h_.1)))) (by decide) hg); have n1_ := aM_ (blk_grown (g := gb427) (o := .cells #[.int .i64 t422, .int .i64 t423, .string t424] 116 (0, 0)) (by (with_reducible repeat (first | refine kN_ ?_ _ | refine kD_ ?_ | refine kA_ ?_ _)); refine blk_put (cs := #[.int .i64 t422, .int .i64 t423, .string (⟨#[]⟩ : ByteArray)]) ?_ 2 _ rfl; (with_reducible repeat (first | refine kN_ ?_ _ | refine kD_ ?_ | refine kA_ ?_ _)); refine blk_put (cs := #[.int .i64 t422, .int .i64 0, .string (⟨#[]⟩ : ByteArray)]) ?_ 1 _ rfl; (with_reducible repeat (first | refine kN_ ?_ _ | refine kD_ ?_ | refine kA_ ?_ _)); refine blk_put (cs := #[.int .i64 0, .int .i64 0, .string (⟨#[]⟩ : ByteArray)]) ?_ 0 _ rfl; (with_reducible repeat (first | refine kN_ ?_ _ | refine kD_ ?_ | refine kA_ ?_ _)); exact BK427.out) hg (Kd.R_away HO_11.out (fun _ hk => hk.2))); have n2_ := aM_ (hb); have n3_ := aM_ (ho); clear HO_6; clear BK427; clear HB; clear HO_11; have HO_6 := n0_; have BK427 := n1_; have HB := n2_; have HO430 := n3_; clear n0_ n1_ n2_ n3_; clear ho hb hg hat))
        go_roundg kj8
        case measure => have := HK1.out; have := HJ8.out; omega
        case rel => exact ⟨(t425), (y428), (wrap64 (x12_1 + 1)), (by first | rfl | (simp; done) | (simp [*]; done)), (by first | rfl | (simp; done) | (simp [*]; done)), H', ⟨by have := HK1.out; have := HJ8.out; omega⟩, ⟨by (with_reducible repeat (first | apply rA_ | apply rN_ | apply rD_)); exact HO_6.out⟩, ⟨by (with_reducible repeat (first | apply rA_ | apply rN_ | apply rD_)); exact Kd.R_mono HO430.out (fun _ hk => trivial)⟩, ⟨by repeat (first | (with_reducible first | exact HB.out | apply bA_ | apply bN_ | apply bD_ | refine bE_ ?_ GE427.out) | exact HB.out)⟩⟩
       ·rw [if_neg c16] at H
        exact absurd H (by simp)
      ·replace c15 := Bool.eq_false_iff.mpr c15
       subst c15
       have H1 : (some ((([] : List (S116))), false)) = some (r1, r2) := by rw [if_neg (show ¬ (false = true) by decide)] at H; exact H
       clear H
       have H := H1
       clear H1
       obtain ⟨y431, hy431⟩ : ∃ y_ : List (S116), y_ = (([] : List (S116))) := ⟨_, rfl⟩
       replace H : (some (y431, false)) = some (r1, r2) := by first | (rw [hy431]; with_reducible exact H) | (have H2_ := (Option.bind_some _ _).symm.trans H; rw [hy431]; with_reducible exact H2_) | (have H2_ := (Option.bind_some _ _).symm.trans H; with_reducible exact H2_) | with_reducible exact H | (rw [hy431]; exact H) | exact H
       have Ny431 := aM_ hy431
       clear hy431
       simp only [Option.some.injEq, Prod.mk.injEq] at H
       obtain ⟨rfl, rfl⟩ := H
       go_wp2_with (first | ((with_reducible refine gate_callee (f := 118) rfl ?_); refine goesL_ (some 46) rfl rfl Try.func118 (by kernel_rfl) rfl #[.slice Ao6 t412.length co6, .int .i64 x9_1] rfl (by (try simp only [List.map_toArray, List.map_cons, List.map_nil]); first | done | rfl | (simp only [List.length_drop, List.length_take]; rfl)) ?_; (with_reducible refine (spec_l7Val.calls kj8 _ _ t412 x9_1 t422 t423 t424 t425 false _ ?side1 ?side2 A14.out).mono ?_); (case side1 => repeat (first | exact (Kd.R_reads' HO_6.out).2.2 | (with_reducible refine cA_ ?_ _) | (with_reducible refine cN_ ?_ _) | (with_reducible refine cD_ ?_))); (case side2 => exact (Kd.R_reads' HO_6.out).2.1); rintro e w21 ⟨rfl, hb⟩; refine ⟨_, rfl, ?_⟩; have n0_ := aM_ (Kd.R_below (by (with_reducible repeat (first | apply rA_ | apply rN_ | apply rD_)); exact HO_6.out) hb); have n1_ := aM_ (Kd.R_below (by (with_reducible repeat (first | apply rA_ | apply rN_ | apply rD_)); exact HO_11.out) hb); have n2_ := aM_ (bT_ (by repeat (first | (with_reducible first | exact HB.out | apply bA_ | apply bN_ | apply bD_) | exact HB.out)) hb); clear HO_6; clear HO_11; clear HB; have HO_6 := n0_; have HO_11 := n1_; have HB := n2_; clear n0_ n1_ n2_; (try clear hb); (try clear hb2); (try clear hk); (try clear hi)) | ((with_reducible refine gate_dst (N := 13) rfl ?_); (try (refine gate_guard (by rfl) ?_; dsimp only)); refine box_event ?hg (N := 13) ?hd (cs := #[.int .i64 0, .int .i64 0, .string (⟨#[]⟩ : ByteArray)]) (t := 116) ?hr ?_; (case hd => rfl); (case hg => rfl); (case hr => first | (go_simp; done) | (go_simp; rfl)); intro gb427 hg w22 hbox hb; have n0_ := aM_ (Kd.R_below (by (with_reducible repeat (first | apply rA_ | apply rN_ | apply rD_)); exact HO_6.out) hb); have n1_ := aM_ (Kd.R_below (Kd.R_elderB (by (with_reducible repeat (first | apply rA_ | apply rN_ | apply rD_)); exact HO_11.out) gb427 (Nat.le_of_eq hg.symm)) hb); have n2_ := aM_ (bT_ (by repeat (first | (with_reducible first | exact HB.out | apply bA_ | apply bN_ | apply bD_) | exact HB.out)) hb); have n3_ := aM_ (hbox); have n4_ := aM_ ((by rw [hg]; exact (bS_ (by repeat (first | (with_reducible first | exact HB.out | apply bA_ | apply bN_ | apply bD_) | exact HB.out))) : w.heap.size ≤ gb427)); have n5_ := aM_ ((by rw [hg]; exact (bS_ (by repeat (first | (with_reducible first | exact HB.out | apply bA_ | apply bN_ | apply bD_) | exact HB.out))) : w.heap.size ≤ gb427)); clear HO_6; clear HO_11; clear HB; have HO_6 := n0_; have HO_11 := n1_; have HB := n2_; have BK427 := n3_; have GW427 := n4_; have GE427 := n5_; clear n0_ n1_ n2_ n3_ n4_ n5_; clear hb hbox hg; have hcz23_0 : w22.cell? ⟨gb427, 0, none⟩ = some (.int .i64 0) := (kC_ BK427.out 0).trans rfl; have hcz23_1 : w22.cell? ⟨gb427, 1, none⟩ = some (.int .i64 0) := (kC_ BK427.out 1).trans rfl; have hcz23_2 : w22.cell? ⟨gb427, 2, none⟩ = some (.string (⟨#[]⟩ : ByteArray)) := (kC_ BK427.out 2).trans rfl; have hfz23_0 := kF_ BK427.out 0; have hfz23_1 := kF_ BK427.out 1; have hfz23_2 := kF_ BK427.out 2) | ((with_reducible refine gate_dst (N := 52) rfl ?_); (try (refine gate_guard (by rfl) ?_; dsimp only)); refine Kd.R_lit k116 _ 116 ?hg (N := 52) ?hd (xs := ([] : List (S116))) (inner := []) (ok := fun _ => True) (okp := fun _ => True) ?hr ?hp (fun _ hk => hk) trivial (Below.refl _ _) (Nat.le_refl _) (by simp) ?_; (case hd => rfl); (case hg => rfl); (case hr => first | (go_simp; done) | (go_simp; rfl)); (case hp => exact (Reps.none _ _)); intro v432 w24 ho25 hb hg_ hnew_; clear hg_ hnew_; (first | rw [← Ny431.out] at ho25 | (simp only [Int.reduceToNat] at ho25; rw [← Ny431.out] at ho25)); have n0_ := aM_ (Kd.R_below (by (with_reducible repeat (first | apply rA_ | apply rN_ | apply rD_)); exact (Kd.R_mono (Kd.R_far (p := ⟨gb427, 2, none⟩) (Kd.R_far (p := ⟨gb427, 1, none⟩) (Kd.R_far (p := ⟨gb427, 0, none⟩) (Kd.R_types HO_6.out BK427.out (by decide)) (fun _ hk => hk.2) (.int .i64 t422)) (fun _ hk => hk.2) (.int .i64 t423)) (fun _ hk => hk.2) (.string t424)) (fun _ h_ => h_.1))) hb); have n1_ := aM_ (Kd.R_elder' (by (with_reducible repeat (first | apply rA_ | apply rN_ | apply rD_)); exact (Kd.R_mono (Kd.R_far (p := ⟨gb427, 2, none⟩) (Kd.R_far (p := ⟨gb427, 1, none⟩) (Kd.R_far (p := ⟨gb427, 0, none⟩) (Kd.R_mono HO_11.out (fun k_ hk => (⟨hk, hk.2⟩ : _ ∧ k_ ≠ gb427))) (fun _ hk => hk.2) (.int .i64 t422)) (fun _ hk => hk.2) (.int .i64 t423)) (fun _ hk => hk.2) (.string t424)) (fun _ h_ => h_.1))) (Kd.R_base ho25) hb); have n2_ := aM_ (Kd.R_lower (Kd.R_newB (Kd.R_new' ho25 (Kd.R_lt (by (with_reducible repeat (first | apply rA_ | apply rN_ | apply rD_)); exact (Kd.R_mono (Kd.R_far (p := ⟨gb427, 2, none⟩) (Kd.R_far (p := ⟨gb427, 1, none⟩) (Kd.R_far (p := ⟨gb427, 0, none⟩) (Kd.R_mono HO_11.out (fun k_ hk => (⟨hk, hk.2⟩ : _ ∧ k_ ≠ gb427))) (fun _ hk => hk.2) (.int .i64 t422)) (fun _ hk => hk.2) (.int .i64 t423)) (fun _ hk => hk.2) (.string t424)) (fun _ h_ => h_.1))))) (g := gb427) (o := .cells #[.int .i64 t422, .int .i64 t423, .string t424] 116 (0, 0)) (by (with_reducible repeat (first | refine kN_ ?_ _ | refine kD_ ?_ | refine kA_ ?_ _)); refine blk_put (cs := #[.int .i64 t422, .int .i64 t423, .string (⟨#[]⟩ : ByteArray)]) ?_ 2 _ rfl; (with_reducible repeat (first | refine kN_ ?_ _ | refine kD_ ?_ | refine kA_ ?_ _)); refine blk_put (cs := #[.int .i64 t422, .int .i64 0, .string (⟨#[]⟩ : ByteArray)]) ?_ 1 _ rfl; (with_reducible repeat (first | refine kN_ ?_ _ | refine kD_ ?_ | refine kA_ ?_ _)); refine blk_put (cs := #[.int .i64 0, .int .i64 0, .string (⟨#[]⟩ : ByteArray)]) ?_ 0 _ rfl; (with_reducible repeat (first | refine kN_ ?_ _ | refine kD_ ?_ | refine kA_ ?_ _)); exact BK427.out)) (bS_ (by repeat (first | (with_reducible first | exact HB.out | apply bA_ | apply bN_ | apply bD_ | refine bE_ ?_ GE427.out) | exact HB.out)))); have n3_ := aM_ (blk_below (g := gb427) (o := .cells #[.int .i64 t422, .int .i64 t423, .string t424] 116 (0, 0)) (by (with_reducible repeat (first | refine kN_ ?_ _ | refine kD_ ?_ | refine kA_ ?_ _)); refine blk_put (cs := #[.int .i64 t422, .int .i64 t423, .string (⟨#[]⟩ : ByteArray)]) ?_ 2 _ rfl; (with_reducible repeat (first | refine kN_ ?_ _ | refine kD_ ?_ | refine kA_ ?_ _)); refine blk_put (cs := #[.int .i64 t422, .int .i64 0, .string (⟨#[]⟩ : ByteArray)]) ?_ 1 _ rfl; (with_reducible repeat (first | refine kN_ ?_ _ | refine kD_ ?_ | refine kA_ ?_ _)); refine blk_put (cs := #[.int .i64 0, .int .i64 0, .string (⟨#[]⟩ : ByteArray)]) ?_ 0 _ rfl; (with_reducible repeat (first | refine kN_ ?_ _ | refine kD_ ?_ | refine kA_ ?_ _)); exact BK427.out) hb); have n4_ := aM_ (bT_ (by repeat (first | (with_reducible first | exact HB.out | apply bA_ | apply bN_ | apply bD_ | refine bE_ ?_ GE427.out) | exact HB.out)) hb); clear HO_6; clear HO_11; clear BK427; clear HB; have HO_6 := n0_; have HO_11 := n1_; have HO433 := n2_; have BK427 := n3_; have HB := n4_; clear n0_ n1_ n2_ n3_ n4_; clear hb ho25))
       go_ret2
       exact ⟨_, by first | rfl | (simp [errW_none, errW_some] <;> rfl) | (simp [*, errW_none, errW_some] <;> rfl), by (with_reducible repeat (first | apply rA_ | apply rN_ | apply rD_)); exact Kd.R_mono HO433.out (fun _ hk => trivial), by repeat (first | (with_reducible first | exact HB.out | apply bA_ | apply bN_ | apply bD_ | refine bE_ ?_ GE427.out) | exact HB.out)⟩
     ·replace c13 := Bool.eq_false_iff.mpr c13
      subst c13
      have H1 : (if t413 = true then (if t418 = true then (if x9_1 = (t412.length : Int) then (if t416 = (x11_1.length : Int) then ((spec_RowOk.f kj8 l0 x11_1).bind fun t434 => (if t434 = true then (some (x11_1, true)) else (some ((([] : List (S116))), false)))) else (some ((([] : List (S116))), false))) else (some ((([] : List (S116))), false))) else (some ((([] : List (S116))), false))) else (some ((([] : List (S116))), false))) = some (r1, r2) := by rw [if_neg (show ¬ (false = true) by decide)] at H; exact H
      clear H
      have H := H1
      clear H1
      by_cases c26 : t413 = true
      ·subst c26
       have H1 : (if t418 = true then (if x9_1 = (t412.length : Int) then (if t416 = (x11_1.length : Int) then ((spec_RowOk.f kj8 l0 x11_1).bind fun t434 => (if t434 = true then (some (x11_1, true)) else (some ((([] : List (S116))), false)))) else (some ((([] : List (S116))), false))) else (some ((([] : List (S116))), false))) else (some ((([] : List (S116))), false))) = some (r1, r2) := by rw [if_pos rfl] at H; exact H
       clear H
       have H := H1
       clear H1
       by_cases c27 : t418 = true
       ·subst c27
        have H1 : (if x9_1 = (t412.length : Int) then (if t416 = (x11_1.length : Int) then ((spec_RowOk.f kj8 l0 x11_1).bind fun t434 => (if t434 = true then (some (x11_1, true)) else (some ((([] : List (S116))), false)))) else (some ((([] : List (S116))), false))) else (some ((([] : List (S116))), false))) = some (r1, r2) := by rw [if_pos rfl] at H; exact H
        clear H
        have H := H1
        clear H1
        by_cases c28 : x9_1 = (t412.length : Int)
        ·rw [if_pos c28] at H
         have c28b0 : (x9_1 == (t412.length : Int)) = true := beq_iff_eq.mpr c28
         have c28b1 : (x9_1 != (t412.length : Int)) = false := bne_eq_false_iff_eq.mpr c28
         clear c28
         by_cases c29 : t416 = (x11_1.length : Int)
         ·rw [if_pos c29] at H
          have c29b0 : (t416 == (x11_1.length : Int)) = true := beq_iff_eq.mpr c29
          have c29b1 : (t416 != (x11_1.length : Int)) = false := bne_eq_false_iff_eq.mpr c29
          clear c29
          replace H := Option.bind_eq_some_iff.mp H
          obtain ⟨t434, A300, H⟩ := H
          replace H : (if t434 = true then (some (x11_1, true)) else (some ((([] : List (S116))), false))) = some (r1, r2) := H
          have A30 := aM_ A300
          clear A300
          by_cases c31 : t434 = true
          ·subst c31
           have H1 : (some (x11_1, true)) = some (r1, r2) := by rw [if_pos rfl] at H; exact H
           clear H
           have H := H1
           clear H1
           simp only [Option.some.injEq, Prod.mk.injEq] at H
           obtain ⟨rfl, rfl⟩ := H
           obtain ⟨Ao32, co32, eo32⟩ := Kd.R_slice HO_11.out
           subst eo32
           go_wp2_with (first | (go_at_call 45; (with_reducible refine (spec_RowOk.calls kj8 _ _ l0 _ _ x11_1 true _ ?side1 ?side2 ?side3 ?side4 A30.out).mono ?_); (case side1 => repeat (first | exact (Kd.C_below HR0.out HB.out) | (with_reducible refine cA_ ?_ _) | (with_reducible refine cN_ ?_ _) | (with_reducible refine cD_ ?_))); (case side2 => exact HC0.out); (case side3 => repeat (first | exact (Kd.R_reads' HO_11.out).2.2 | (with_reducible refine cA_ ?_ _) | (with_reducible refine cN_ ?_ _) | (with_reducible refine cD_ ?_))); (case side4 => exact (Kd.R_reads' HO_11.out).2.1); rintro e w33 ⟨rfl, hb⟩; have n0_ := aM_ (Kd.R_below (by (with_reducible repeat (first | apply rA_ | apply rN_ | apply rD_)); exact HO_6.out) hb); have n1_ := aM_ (Kd.R_below (by (with_reducible repeat (first | apply rA_ | apply rN_ | apply rD_)); exact HO_11.out) hb); have n2_ := aM_ (bT_ (by repeat (first | (with_reducible first | exact HB.out | apply bA_ | apply bN_ | apply bD_) | exact HB.out)) hb); clear HO_6; clear HO_11; clear HB; have HO_6 := n0_; have HO_11 := n1_; have HB := n2_; clear n0_ n1_ n2_; (try clear hb); (try clear hb2); (try clear hk); (try clear hi)))
           go_ret2
           exact ⟨_, by first | rfl | (simp [errW_none, errW_some] <;> rfl) | (simp [*, errW_none, errW_some] <;> rfl), by (with_reducible repeat (first | apply rA_ | apply rN_ | apply rD_)); exact HO_11.out, by repeat (first | (with_reducible first | exact HB.out | apply bA_ | apply bN_ | apply bD_) | exact HB.out)⟩
          ·replace c31 := Bool.eq_false_iff.mpr c31
           subst c31
           have H1 : (some ((([] : List (S116))), false)) = some (r1, r2) := by rw [if_neg (show ¬ (false = true) by decide)] at H; exact H
           clear H
           have H := H1
           clear H1
           obtain ⟨y435, hy435⟩ : ∃ y_ : List (S116), y_ = (([] : List (S116))) := ⟨_, rfl⟩
           replace H : (some (y435, false)) = some (r1, r2) := by first | (rw [hy435]; with_reducible exact H) | (have H2_ := (Option.bind_some _ _).symm.trans H; rw [hy435]; with_reducible exact H2_) | (have H2_ := (Option.bind_some _ _).symm.trans H; with_reducible exact H2_) | with_reducible exact H | (rw [hy435]; exact H) | exact H
           have Ny435 := aM_ hy435
           clear hy435
           simp only [Option.some.injEq, Prod.mk.injEq] at H
           obtain ⟨rfl, rfl⟩ := H
           obtain ⟨Ao34, co34, eo34⟩ := Kd.R_slice HO_11.out
           subst eo34
           go_wp2_with (first | (go_at_call 45; (with_reducible refine (spec_RowOk.calls kj8 _ _ l0 _ _ x11_1 false _ ?side1 ?side2 ?side3 ?side4 A30.out).mono ?_); (case side1 => repeat (first | exact (Kd.C_below HR0.out HB.out) | (with_reducible refine cA_ ?_ _) | (with_reducible refine cN_ ?_ _) | (with_reducible refine cD_ ?_))); (case side2 => exact HC0.out); (case side3 => repeat (first | exact (Kd.R_reads' HO_11.out).2.2 | (with_reducible refine cA_ ?_ _) | (with_reducible refine cN_ ?_ _) | (with_reducible refine cD_ ?_))); (case side4 => exact (Kd.R_reads' HO_11.out).2.1); rintro e w35 ⟨rfl, hb⟩; have n0_ := aM_ (Kd.R_below (by (with_reducible repeat (first | apply rA_ | apply rN_ | apply rD_)); exact HO_6.out) hb); have n1_ := aM_ (Kd.R_below (by (with_reducible repeat (first | apply rA_ | apply rN_ | apply rD_)); exact HO_11.out) hb); have n2_ := aM_ (bT_ (by repeat (first | (with_reducible first | exact HB.out | apply bA_ | apply bN_ | apply bD_) | exact HB.out)) hb); clear HO_6; clear HO_11; clear HB; have HO_6 := n0_; have HO_11 := n1_; have HB := n2_; clear n0_ n1_ n2_; (try clear hb); (try clear hb2); (try clear hk); (try clear hi)) | ((with_reducible refine gate_dst (N := 82) rfl ?_); (try (refine gate_guard (by rfl) ?_; dsimp only)); refine Kd.R_lit k116 _ 116 ?hg (N := 82) ?hd (xs := ([] : List (S116))) (inner := []) (ok := fun _ => True) (okp := fun _ => True) ?hr ?hp (fun _ hk => hk) trivial (Below.refl _ _) (Nat.le_refl _) (by simp) ?_; (case hd => rfl); (case hg => rfl); (case hr => first | (go_simp; done) | (go_simp; rfl)); (case hp => exact (Reps.none _ _)); intro v436 w36 ho37 hb hg_ hnew_; clear hg_ hnew_; (first | rw [← Ny435.out] at ho37 | (simp only [Int.reduceToNat] at ho37; rw [← Ny435.out] at ho37)); have n0_ := aM_ (Kd.R_below (by (with_reducible repeat (first | apply rA_ | apply rN_ | apply rD_)); exact HO_6.out) hb); have n1_ := aM_ (Kd.R_elder' (by (with_reducible repeat (first | apply rA_ | apply rN_ | apply rD_)); exact HO_11.out) (Kd.R_base ho37) hb); have n2_ := aM_ (Kd.R_lower (Kd.R_new' ho37 (Kd.R_lt (by (with_reducible repeat (first | apply rA_ | apply rN_ | apply rD_)); exact HO_11.out))) (bS_ (by repeat (first | (with_reducible first | exact HB.out | apply bA_ | apply bN_ | apply bD_) | exact HB.out)))); have n3_ := aM_ (bT_ (by repeat (first | (with_reducible first | exact HB.out | apply bA_ | apply bN_ | apply bD_) | exact HB.out)) hb); clear HO_6; clear HO_11; clear HB; have HO_6 := n0_; have HO_11 := n1_; have HO437 := n2_; have HB := n3_; clear n0_ n1_ n2_ n3_; clear hb ho37))
           go_ret2
           exact ⟨_, by first | rfl | (simp [errW_none, errW_some] <;> rfl) | (simp [*, errW_none, errW_some] <;> rfl), by (with_reducible repeat (first | apply rA_ | apply rN_ | apply rD_)); exact Kd.R_mono HO437.out (fun _ hk => trivial), by repeat (first | (with_reducible first | exact HB.out | apply bA_ | apply bN_ | apply bD_) | exact HB.out)⟩
         ·rw [if_neg c29] at H
          have c29b0 : (t416 == (x11_1.length : Int)) = false := beq_eq_false_iff_ne.mpr c29
          have c29b1 : (t416 != (x11_1.length : Int)) = true := bne_iff_ne.mpr c29
          obtain ⟨y438, hy438⟩ : ∃ y_ : List (S116), y_ = (([] : List (S116))) := ⟨_, rfl⟩
          replace H : (some (y438, false)) = some (r1, r2) := by first | (rw [hy438]; with_reducible exact H) | (have H2_ := (Option.bind_some _ _).symm.trans H; rw [hy438]; with_reducible exact H2_) | (have H2_ := (Option.bind_some _ _).symm.trans H; with_reducible exact H2_) | with_reducible exact H | (rw [hy438]; exact H) | exact H
          have Ny438 := aM_ hy438
          clear hy438
          simp only [Option.some.injEq, Prod.mk.injEq] at H
          obtain ⟨rfl, rfl⟩ := H
          obtain ⟨Ao38, co38, eo38⟩ := Kd.R_slice HO_11.out
          subst eo38
          go_wp2_with (first | ((with_reducible refine gate_dst (N := 82) rfl ?_); (try (refine gate_guard (by rfl) ?_; dsimp only)); refine Kd.R_lit k116 _ 116 ?hg (N := 82) ?hd (xs := ([] : List (S116))) (inner := []) (ok := fun _ => True) (okp := fun _ => True) ?hr ?hp (fun _ hk => hk) trivial (Below.refl _ _) (Nat.le_refl _) (by simp) ?_; (case hd => rfl); (case hg => rfl); (case hr => first | (go_simp; done) | (go_simp; rfl)); (case hp => exact (Reps.none _ _)); intro v439 w39 ho40 hb hg_ hnew_; clear hg_ hnew_; (first | rw [← Ny438.out] at ho40 | (simp only [Int.reduceToNat] at ho40; rw [← Ny438.out] at ho40)); have n0_ := aM_ (Kd.R_below (by (with_reducible repeat (first | apply rA_ | apply rN_ | apply rD_)); exact HO_6.out) hb); have n1_ := aM_ (Kd.R_elder' (by (with_reducible repeat (first | apply rA_ | apply rN_ | apply rD_)); exact HO_11.out) (Kd.R_base ho40) hb); have n2_ := aM_ (Kd.R_lower (Kd.R_new' ho40 (Kd.R_lt (by (with_reducible repeat (first | apply rA_ | apply rN_ | apply rD_)); exact HO_11.out))) (bS_ (by repeat (first | (with_reducible first | exact HB.out | apply bA_ | apply bN_ | apply bD_) | exact HB.out)))); have n3_ := aM_ (bT_ (by repeat (first | (with_reducible first | exact HB.out | apply bA_ | apply bN_ | apply bD_) | exact HB.out)) hb); clear HO_6; clear HO_11; clear HB; have HO_6 := n0_; have HO_11 := n1_; have HO440 := n2_; have HB := n3_; clear n0_ n1_ n2_ n3_; clear hb ho40))
          go_ret2
          exact ⟨_, by first | rfl | (simp [errW_none, errW_some] <;> rfl) | (simp [*, errW_none, errW_some] <;> rfl), by (with_reducible repeat (first | apply rA_ | apply rN_ | apply rD_)); exact Kd.R_mono HO440.out (fun _ hk => trivial), by repeat (first | (with_reducible first | exact HB.out | apply bA_ | apply bN_ | apply bD_) | exact HB.out)⟩
        ·rw [if_neg c28] at H
         have c28b0 : (x9_1 == (t412.length : Int)) = false := beq_eq_false_iff_ne.mpr c28
         have c28b1 : (x9_1 != (t412.length : Int)) = true := bne_iff_ne.mpr c28
         obtain ⟨y441, hy441⟩ : ∃ y_ : List (S116), y_ = (([] : List (S116))) := ⟨_, rfl⟩
         replace H : (some (y441, false)) = some (r1, r2) := by first | (rw [hy441]; with_reducible exact H) | (have H2_ := (Option.bind_some _ _).symm.trans H; rw [hy441]; with_reducible exact H2_) | (have H2_ := (Option.bind_some _ _).symm.trans H; with_reducible exact H2_) | with_reducible exact H | (rw [hy441]; exact H) | exact H
         have Ny441 := aM_ hy441
         clear hy441
         simp only [Option.some.injEq, Prod.mk.injEq] at H
         obtain ⟨rfl, rfl⟩ := H
         go_wp2_with (first | ((with_reducible refine gate_dst (N := 82) rfl ?_); (try (refine gate_guard (by rfl) ?_; dsimp only)); refine Kd.R_lit k116 _ 116 ?hg (N := 82) ?hd (xs := ([] : List (S116))) (inner := []) (ok := fun _ => True) (okp := fun _ => True) ?hr ?hp (fun _ hk => hk) trivial (Below.refl _ _) (Nat.le_refl _) (by simp) ?_; (case hd => rfl); (case hg => rfl); (case hr => first | (go_simp; done) | (go_simp; rfl)); (case hp => exact (Reps.none _ _)); intro v442 w41 ho42 hb hg_ hnew_; clear hg_ hnew_; (first | rw [← Ny441.out] at ho42 | (simp only [Int.reduceToNat] at ho42; rw [← Ny441.out] at ho42)); have n0_ := aM_ (Kd.R_below (by (with_reducible repeat (first | apply rA_ | apply rN_ | apply rD_)); exact HO_6.out) hb); have n1_ := aM_ (Kd.R_elder' (by (with_reducible repeat (first | apply rA_ | apply rN_ | apply rD_)); exact HO_11.out) (Kd.R_base ho42) hb); have n2_ := aM_ (Kd.R_lower (Kd.R_new' ho42 (Kd.R_lt (by (with_reducible repeat (first | apply rA_ | apply rN_ | apply rD_)); exact HO_11.out))) (bS_ (by repeat (first | (with_reducible first | exact HB.out | apply bA_ | apply bN_ | apply bD_) | exact HB.out)))); have n3_ := aM_ (bT_ (by repeat (first | (with_reducible first | exact HB.out | apply bA_ | apply bN_ | apply bD_) | exact HB.out)) hb); clear HO_6; clear HO_11; clear HB; have HO_6 := n0_; have HO_11 := n1_; have HO443 := n2_; have HB := n3_; clear n0_ n1_ n2_ n3_; clear hb ho42))
         go_ret2
         exact ⟨_, by first | rfl | (simp [errW_none, errW_some] <;> rfl) | (simp [*, errW_none, errW_some] <;> rfl), by (with_reducible repeat (first | apply rA_ | apply rN_ | apply rD_)); exact Kd.R_mono HO443.out (fun _ hk => trivial), by repeat (first | (with_reducible first | exact HB.out | apply bA_ | apply bN_ | apply bD_) | exact HB.out)⟩
       ·replace c27 := Bool.eq_false_iff.mpr c27
        subst c27
        have H1 : (some ((([] : List (S116))), false)) = some (r1, r2) := by rw [if_neg (show ¬ (false = true) by decide)] at H; exact H
        clear H
        have H := H1
        clear H1
        obtain ⟨y444, hy444⟩ : ∃ y_ : List (S116), y_ = (([] : List (S116))) := ⟨_, rfl⟩
        replace H : (some (y444, false)) = some (r1, r2) := by first | (rw [hy444]; with_reducible exact H) | (have H2_ := (Option.bind_some _ _).symm.trans H; rw [hy444]; with_reducible exact H2_) | (have H2_ := (Option.bind_some _ _).symm.trans H; with_reducible exact H2_) | with_reducible exact H | (rw [hy444]; exact H) | exact H
        have Ny444 := aM_ hy444
        clear hy444
        simp only [Option.some.injEq, Prod.mk.injEq] at H
        obtain ⟨rfl, rfl⟩ := H
        go_wp2_with (first | ((with_reducible refine gate_dst (N := 82) rfl ?_); (try (refine gate_guard (by rfl) ?_; dsimp only)); refine Kd.R_lit k116 _ 116 ?hg (N := 82) ?hd (xs := ([] : List (S116))) (inner := []) (ok := fun _ => True) (okp := fun _ => True) ?hr ?hp (fun _ hk => hk) trivial (Below.refl _ _) (Nat.le_refl _) (by simp) ?_; (case hd => rfl); (case hg => rfl); (case hr => first | (go_simp; done) | (go_simp; rfl)); (case hp => exact (Reps.none _ _)); intro v445 w43 ho44 hb hg_ hnew_; clear hg_ hnew_; (first | rw [← Ny444.out] at ho44 | (simp only [Int.reduceToNat] at ho44; rw [← Ny444.out] at ho44)); have n0_ := aM_ (Kd.R_below (by (with_reducible repeat (first | apply rA_ | apply rN_ | apply rD_)); exact HO_6.out) hb); have n1_ := aM_ (Kd.R_elder' (by (with_reducible repeat (first | apply rA_ | apply rN_ | apply rD_)); exact HO_11.out) (Kd.R_base ho44) hb); have n2_ := aM_ (Kd.R_lower (Kd.R_new' ho44 (Kd.R_lt (by (with_reducible repeat (first | apply rA_ | apply rN_ | apply rD_)); exact HO_11.out))) (bS_ (by repeat (first | (with_reducible first | exact HB.out | apply bA_ | apply bN_ | apply bD_) | exact HB.out)))); have n3_ := aM_ (bT_ (by repeat (first | (with_reducible first | exact HB.out | apply bA_ | apply bN_ | apply bD_) | exact HB.out)) hb); clear HO_6; clear HO_11; clear HB; have HO_6 := n0_; have HO_11 := n1_; have HO446 := n2_; have HB := n3_; clear n0_ n1_ n2_ n3_; clear hb ho44))
        go_ret2
        exact ⟨_, by first | rfl | (simp [errW_none, errW_some] <;> rfl) | (simp [*, errW_none, errW_some] <;> rfl), by (with_reducible repeat (first | apply rA_ | apply rN_ | apply rD_)); exact Kd.R_mono HO446.out (fun _ hk => trivial), by repeat (first | (with_reducible first | exact HB.out | apply bA_ | apply bN_ | apply bD_) | exact HB.out)⟩
      ·replace c26 := Bool.eq_false_iff.mpr c26
       subst c26
       have H1 : (some ((([] : List (S116))), false)) = some (r1, r2) := by rw [if_neg (show ¬ (false = true) by decide)] at H; exact H
       clear H
       have H := H1
       clear H1
       obtain ⟨y447, hy447⟩ : ∃ y_ : List (S116), y_ = (([] : List (S116))) := ⟨_, rfl⟩
       replace H : (some (y447, false)) = some (r1, r2) := by first | (rw [hy447]; with_reducible exact H) | (have H2_ := (Option.bind_some _ _).symm.trans H; rw [hy447]; with_reducible exact H2_) | (have H2_ := (Option.bind_some _ _).symm.trans H; with_reducible exact H2_) | with_reducible exact H | (rw [hy447]; exact H) | exact H
       have Ny447 := aM_ hy447
       clear hy447
       simp only [Option.some.injEq, Prod.mk.injEq] at H
       obtain ⟨rfl, rfl⟩ := H
       go_wp2_with (first | ((with_reducible refine gate_dst (N := 82) rfl ?_); (try (refine gate_guard (by rfl) ?_; dsimp only)); refine Kd.R_lit k116 _ 116 ?hg (N := 82) ?hd (xs := ([] : List (S116))) (inner := []) (ok := fun _ => True) (okp := fun _ => True) ?hr ?hp (fun _ hk => hk) trivial (Below.refl _ _) (Nat.le_refl _) (by simp) ?_; (case hd => rfl); (case hg => rfl); (case hr => first | (go_simp; done) | (go_simp; rfl)); (case hp => exact (Reps.none _ _)); intro v448 w45 ho46 hb hg_ hnew_; clear hg_ hnew_; (first | rw [← Ny447.out] at ho46 | (simp only [Int.reduceToNat] at ho46; rw [← Ny447.out] at ho46)); have n0_ := aM_ (Kd.R_below (by (with_reducible repeat (first | apply rA_ | apply rN_ | apply rD_)); exact HO_6.out) hb); have n1_ := aM_ (Kd.R_elder' (by (with_reducible repeat (first | apply rA_ | apply rN_ | apply rD_)); exact HO_11.out) (Kd.R_base ho46) hb); have n2_ := aM_ (Kd.R_lower (Kd.R_new' ho46 (Kd.R_lt (by (with_reducible repeat (first | apply rA_ | apply rN_ | apply rD_)); exact HO_11.out))) (bS_ (by repeat (first | (with_reducible first | exact HB.out | apply bA_ | apply bN_ | apply bD_) | exact HB.out)))); have n3_ := aM_ (bT_ (by repeat (first | (with_reducible first | exact HB.out | apply bA_ | apply bN_ | apply bD_) | exact HB.out)) hb); clear HO_6; clear HO_11; clear HB; have HO_6 := n0_; have HO_11 := n1_; have HO449 := n2_; have HB := n3_; clear n0_ n1_ n2_ n3_; clear hb ho46))
       go_ret2
       exact ⟨_, by first | rfl | (simp [errW_none, errW_some] <;> rfl) | (simp [*, errW_none, errW_some] <;> rfl), by (with_reducible repeat (first | apply rA_ | apply rN_ | apply rD_)); exact Kd.R_mono HO449.out (fun _ hk => trivial), by repeat (first | (with_reducible first | exact HB.out | apply bA_ | apply bN_ | apply bD_) | exact HB.out)⟩

end Go.Proofs.Ytllgmgpfdnofmaa.PFnExactDecodeRow
