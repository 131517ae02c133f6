-- Written by a program of this session, which builds on the kit's print
import Derived.Test.YtllgmgpfdnofmaaZRBPFnRowBytesx0
import Derived.Test.YtllgmgpfdnofmaaZRBPFnRowBytesx1
import Derived.Test.YtllgmgpfdnofmaaZRBPFnRowBytesx4
import Derived.Test.YtllgmgpfdnofmaaZRBPFnRowBytesx8
import Derived.Test.YtllgmgpfdnofmaaZRBPFnRowBytesx9
namespace Go.Proofs.Ytllgmgpfdnofmaa.PFnRowBytes
open Go.RowKit Go.Proofs.YtllgmgpfdnofmaaW.PrintWords Go.Proofs.YtllgmgpfdnofmaaW.PrintLast Go.Proofs.YtllgmgpfdnofmaaW.PrintMore Go.Proofs.Ytllgmgpfdnofmaa.Xtra
attribute [local go_sem] max2_int min2_int max_two min_two max_three min_three max_four min_four str_leq str_gtr str_geq setCell_drewN cell_set2 cell_set3   -- for this text's walks alone
set_option linter.unusedVariables false
set_option linter.unusedSimpArgs false

attribute [local go_sem high] eqA116
/-! ### impl_valueAt: function 115 -/
def impl_valueAt.j0 : Nat → List Int → Int → Bool → Int → Bool → Int → Int → ByteArray → Option (Int × Int × ByteArray × Int × Bool)
 | 0, _, _, _, _, _, _, _, _ => none
 | k + 1, x0, x8, x9, x23, x24, x513000, x513001, x513002 => if x24 = true then ((impl_GetVar.f k x0 x8).bind fun bt513 => (some (x513000, bt513.1, x513002, bt513.2.1, bt513.2.2))) else (if x23 = 3 then ((impl_GetText.f k x0 x8).bind fun bt516 => (some (x513000, x513001, bt516.1, bt516.2.1, bt516.2.2))) else (if x23 = 4 then (if x8 ≥ (x0.length : Int) then (some (0, 0, (⟨#[]⟩ : ByteArray), 0, false)) else (if 0 ≤ x8 then (if x8 < (x0.length : Int) then (some (x513000, wrap64 (rd x0 x8), x513002, wrap64 (x8 + 1), x9)) else (none)) else (none))) else (some (x513000, x513001, x513002, x8, x9))))
def impl_valueAt.f (k : Nat) (l0 : List Int) (a1 : Int) : Option (Int × Int × ByteArray × Int × Bool) := (impl_GetU.f k l0 a1).bind fun bt509 => (if bt509.2.2 = true then (if bt509.1 = 1 then (impl_valueAt.j0 k l0 bt509.2.1 bt509.2.2 bt509.1 (bt509.1 == 1) bt509.1 0 (⟨#[]⟩ : ByteArray)) else (impl_valueAt.j0 k l0 bt509.2.1 bt509.2.2 bt509.1 (bt509.1 == 2) bt509.1 0 (⟨#[]⟩ : ByteArray))) else (some (0, 0, (⟨#[]⟩ : ByteArray), 0, false)))
theorem impl_valueAt.mono_l : ∀ k, (∀ y0 y1 y2 y3 y4 y5 y6 y7, LeO (impl_valueAt.j0 k y0 y1 y2 y3 y4 y5 y6 y7) (impl_valueAt.j0 (k + 1) y0 y1 y2 y3 y4 y5 y6 y7))
 | 0 => fun _ _ _ _ _ _ _ _ r h => by simp [impl_valueAt.j0] at h
 | k + 1 => by
  have ih0 := impl_valueAt.mono_l k
  ·intro y0 y1 y2 y3 y4 y5 y6 y7
   unfold impl_valueAt.j0
   repeat' first
   | (with_reducible exact ih0 _ _ _ _ _ _ _ _)
   | (with_reducible exact impl_GetText.mono _ _ _)
   | (with_reducible exact impl_GetU.mono _ _ _)
   | (with_reducible exact impl_GetVar.mono _ _ _)
   | (with_reducible exact LeO.refl _)
   | (with_reducible exact LeO.none _)
   | (with_reducible refine LeO.ite ?_ ?_)
   | (with_reducible refine LeO.bind ?_ (fun _ => ?_))
   | exact ih0 _ _ _ _ _ _ _ _
   | exact impl_GetText.mono _ _ _
   | exact impl_GetU.mono _ _ _
   | exact impl_GetVar.mono _ _ _
   | exact LeO.none _
   | refine LeO.ite ?_ ?_
   | refine LeO.bind ?_ (fun _ => ?_)
theorem impl_valueAt.mono : ∀ a0 a1 k, LeO (impl_valueAt.f k a0 a1) (impl_valueAt.f (k + 1) a0 a1) := by
 intro a0 a1 k
 have ih0 := impl_valueAt.mono_l k
 unfold impl_valueAt.f
 repeat' first
   | (with_reducible exact ih0 _ _ _ _ _ _ _ _)
   | (with_reducible exact impl_GetText.mono _ _ _)
   | (with_reducible exact impl_GetU.mono _ _ _)
   | (with_reducible exact impl_GetVar.mono _ _ _)
   | (with_reducible exact LeO.refl _)
   | (with_reducible exact LeO.none _)
   | (with_reducible refine LeO.ite ?_ ?_)
   | (with_reducible refine LeO.bind ?_ (fun _ => ?_))
   | exact ih0 _ _ _ _ _ _ _ _
   | exact impl_GetText.mono _ _ _
   | exact impl_GetU.mono _ _ _
   | exact impl_GetVar.mono _ _ _
   | exact LeO.none _
   | refine LeO.ite ?_ ?_
   | refine LeO.bind ?_ (fun _ => ?_)
set_option maxHeartbeats 8000000 in
set_option maxRecDepth 100000 in
theorem impl_valueAt.calls (k : Nat) (A0 : Option Addr) (c0 : Nat) (l0 : List Int) (a1 : Int) (r1 : Int) (r2 : Int) (r3 : ByteArray) (r4 : Int) (r5 : Bool) (w : World) (hr0 : Kd.C (Kd.int .u8) w A0 l0.length l0) (hc0 : l0.length ≤ c0) (h : impl_valueAt.f k l0 a1 = some (r1, r2, r3, r4, r5)) :
  Calls Try.prog 115 #[.slice A0 l0.length c0, .int .i64 a1] w fun e w' => e = .returned (.tuple #[.agg #[.int .i64 r1, .int .i64 r2, .string r3], .int .i64 r4, .bool r5]) ∧ Below w.heap.size w w' := by
 have hu116 := Try.underlying116
 have HR0 := aM_ hr0
 have HC0 := aM_ hc0
 clear hr0 hc0
 have HB := aM_ (Below.refl w.heap.size w)
 have H : ((impl_GetU.f k l0 a1).bind fun bt509 => (if bt509.2.2 = true then (if bt509.1 = 1 then (impl_valueAt.j0 k l0 bt509.2.1 bt509.2.2 bt509.1 (bt509.1 == 1) bt509.1 0 (⟨#[]⟩ : ByteArray)) else (impl_valueAt.j0 k l0 bt509.2.1 bt509.2.2 bt509.1 (bt509.1 == 2) bt509.1 0 (⟨#[]⟩ : ByteArray))) else (some (0, 0, (⟨#[]⟩ : ByteArray), 0, false)))) = some (r1, r2, r3, r4, r5) := h
 clear h
 replace H := oB_ H
 obtain ⟨⟨t509, t510, t511⟩, A30, H⟩ := H
 replace H : (if t511 = true then (if t509 = 1 then (impl_valueAt.j0 k l0 t510 t511 t509 (t509 == 1) t509 0 (⟨#[]⟩ : ByteArray)) else (impl_valueAt.j0 k l0 t510 t511 t509 (t509 == 2) t509 0 (⟨#[]⟩ : ByteArray))) else (some (0, 0, (⟨#[]⟩ : ByteArray), 0, false))) = some (r1, r2, r3, r4, r5) := H
 have A3 := aM_ A30
 clear A30
 by_cases c4 : t511 = true
 ·subst c4
  have H1 : (if t509 = 1 then (impl_valueAt.j0 k l0 t510 true t509 (t509 == 1) t509 0 (⟨#[]⟩ : ByteArray)) else (impl_valueAt.j0 k l0 t510 true t509 (t509 == 2) t509 0 (⟨#[]⟩ : ByteArray))) = some (r1, r2, r3, r4, r5) := by rw [if_pos rfl] at H; exact H
  clear H
  have H := H1
  clear H1
  have HC5 := aM_ H
  clear H
  go_enter Try.func115, Try.ntmps115
  go_upto_if 24 with (first | ((with_reducible refine gate_dst (N := 4) rfl ?_); refine box_event ?hg (N := 4) ?hd (cs := #[.int .i64 0, .int .i64 0, .string (⟨#[]⟩ : ByteArray)]) (t := 116) ?hr ?_; (case hd => rfl); (case hg => rfl); (case hr => first | (go_simp; done) | (go_simp; rfl)); intro gb508 hg w6 hbox hb; have n0_ := aM_ (bT_ (by repeat (first | (with_reducible first | exact HB.out | apply bA_ | apply bN_ | apply bD_) | exact HB.out)) hb); have n1_ := aM_ (hbox); have n2_ := aM_ ((by rw [hg]; exact (bS_ (by repeat (first | (with_reducible first | exact HB.out | apply bA_ | apply bN_ | apply bD_) | exact HB.out))) : w.heap.size ≤ gb508)); have n3_ := aM_ ((by rw [hg]; exact (bS_ (by repeat (first | (with_reducible first | exact HB.out | apply bA_ | apply bN_ | apply bD_) | exact HB.out))) : w.heap.size ≤ gb508)); clear HB; have HB := n0_; have BK508 := n1_; have GW508 := n2_; have GE508 := n3_; clear n0_ n1_ n2_ n3_; clear hb hbox hg) | ((with_reducible refine gate_callee (f := 78) rfl ?_); refine goesL_ (some 14) rfl rfl Try.func78 (by kernel_rfl) rfl #[.slice A0 l0.length c0, .int .i64 a1] rfl (by (try simp only [mA_, mC_, mN_]); first | done | rfl | (simp only [lD_, lT_]; rfl)) ?_; (with_reducible refine (impl_GetU.calls k _ _ l0 a1 t509 t510 true _ ?side1 ?side2 A3.out).mono ?_); (case side1 => repeat (first | exact (Kd.C_below HR0.out HB.out) | (with_reducible refine cA_ ?_ _) | (with_reducible refine cN_ ?_ _) | (with_reducible refine cD_ ?_))); (case side2 => exact HC0.out); rintro e w' ⟨rfl, ⟨nd, rfl⟩⟩; refine ⟨_, rfl, ?_⟩; (try (rw [drewN_self w6]; generalize hq_ : World.drewN w6 _ = w6; have n0_ : Aside0 (w6.heap[gb508]? = some (.cells #[.int .i64 0, .int .i64 0, .string (⟨#[]⟩ : ByteArray)] 116 (0, 0))) := ⟨by rw [← hq_]; exact (by (with_reducible repeat (first | refine kN_ ?_ _ | refine kD_ ?_ | refine kA_ ?_ _)); exact BK508.out)⟩; have n1_ : Aside0 (Below w.heap.size w w6) := ⟨by rw [← hq_]; exact (by repeat (first | (with_reducible first | exact HB.out | apply bA_ | apply bN_ | apply bD_ | refine bE_ ?_ GE508.out) | exact HB.out))⟩; clear BK508 HB hq_; have BK508 := n0_; have HB := n1_; clear n0_ n1_))) | ((with_reducible refine gate_dst (N := 10) rfl ?_); refine box_event ?hg (N := 10) ?hd (cs := #[.int .i64 0, .int .i64 0, .string (⟨#[]⟩ : ByteArray)]) (t := 116) ?hr ?_; (case hd => rfl); (case hg => rfl); (case hr => first | (go_simp; done) | (go_simp; rfl)); intro gb512 hg w7 hbox hb; have n0_ := aM_ (blk_below (g := gb508) (o := .cells #[.int .i64 0, .int .i64 0, .string (⟨#[]⟩ : ByteArray)] 116 (0, 0)) (by (with_reducible repeat (first | refine kN_ ?_ _ | refine kD_ ?_ | refine kA_ ?_ _)); exact BK508.out) hb); have n1_ := aM_ (bT_ (by repeat (first | (with_reducible first | exact HB.out | apply bA_ | apply bN_ | apply bD_ | refine bE_ ?_ GE508.out) | exact HB.out)) hb); have n2_ := aM_ (hbox); have n3_ := aM_ ((by rw [hg]; exact (bS_ (by repeat (first | (with_reducible first | exact HB.out | apply bA_ | apply bN_ | apply bD_ | refine bE_ ?_ GE508.out) | exact HB.out))) : w.heap.size ≤ gb512)); have n4_ := aM_ ((by rw [hg]; exact (bS_ (by repeat (first | (with_reducible first | exact HB.out | apply bA_ | apply bN_ | apply bD_ | refine bE_ ?_ GE508.out) | exact HB.out))) : w.heap.size ≤ gb512)); have n5_ := aM_ ((by rw [hg]; exact Nat.ne_of_lt (blk_lt (g := gb508) (o := .cells #[.int .i64 0, .int .i64 0, .string (⟨#[]⟩ : ByteArray)] 116 (0, 0)) (by (with_reducible repeat (first | refine kN_ ?_ _ | refine kD_ ?_ | refine kA_ ?_ _)); exact BK508.out)) : gb508 ≠ gb512)); have n6_ := aM_ ((by rw [hg]; exact Nat.ne_of_gt (blk_lt (g := gb508) (o := .cells #[.int .i64 0, .int .i64 0, .string (⟨#[]⟩ : ByteArray)] 116 (0, 0)) (by (with_reducible repeat (first | refine kN_ ?_ _ | refine kD_ ?_ | refine kA_ ?_ _)); exact BK508.out)) : gb512 ≠ gb508)); clear BK508; clear HB; have BK508 := n0_; have HB := n1_; have BK512 := n2_; have GW512 := n3_; have GE512 := n4_; have NB508_512 := n5_; have NB512_508 := n6_; clear n0_ n1_ n2_ n3_ n4_ n5_ n6_; clear hb hbox hg; have hnb8 := NB512_508.out; have hnc8 := NB508_512.out; have hcz9_0 : w7.cell? ⟨gb512, 0, none⟩ = some (.int .i64 0) := (kC_ BK512.out 0).trans rfl; have hcz9_1 : w7.cell? ⟨gb512, 1, none⟩ = some (.int .i64 0) := (kC_ BK512.out 1).trans rfl; have hcz9_2 : w7.cell? ⟨gb512, 2, none⟩ = some (.string (⟨#[]⟩ : ByteArray)) := (kC_ BK512.out 2).trans rfl; have hfz9_0 := kF_ BK512.out 0; have hfz9_1 := kF_ BK512.out 1; have hfz9_2 := kF_ BK512.out 2))
  (try simp only [Act.put, sI_, sZ_, sS_])
  go_cut [24] (fun v24 wc => ∃ (kq : Nat) (x24_4 : Bool), v24 = .bool x24_4 ∧ Aside0 (impl_valueAt.j0 kq l0 t510 true t509 x24_4 t509 0 (⟨#[]⟩ : ByteArray) = some (r1, r2, r3, r4, r5)) ∧ Aside0 (kq ≤ k) ∧ Aside0 (wc.heap[gb508]? = some (.cells #[.int .i64 0, .int .i64 0, .string (⟨#[]⟩ : ByteArray)] 116 (0, 0))) ∧ Aside0 (wc.heap[gb512]? = some (.cells #[.int .i64 t509, .int .i64 0, .string (⟨#[]⟩ : ByteArray)] 116 (0, 0))) ∧ Aside0 (Below w.heap.size w wc))
  case first =>
   have H := HC5.out
   clear HC5
   by_cases c10 : t509 = 1
   ·rw [if_pos c10] at H
    have c10b0 : (t509 == 1) = true := beq_iff_eq.mpr c10
    have c10b1 : (t509 != 1) = false := bne_eq_false_iff_eq.mpr c10
    clear c10
    (first | rw [c10b0] | (simp only [i64_w, i32_w]; rw [c10b0]) | skip)
    have H' := aM_ H
    clear H
    go_wp2
    (first | go_meet | (refine Met.intro ?_; go_step; (repeat apply Exists.intro); refine ⟨?rel, ?eq⟩; (case eq => (try simp only [c9b0]); (try simp only [c9b0]); (try simp only [c10b0]); rfl)))
    case rel => exact ⟨_, ((t509 == 1)), (by first | rfl | (simp; done) | (simp [*]; done)), H', ⟨by first | omega | exact Nat.le_refl _⟩, ⟨by (with_reducible repeat (first | refine kN_ ?_ _ | refine kD_ ?_ | refine kA_ ?_ _)); refine blk_far ?_ NB508_512.out _; (with_reducible repeat (first | refine kN_ ?_ _ | refine kD_ ?_ | refine kA_ ?_ _)); refine blk_far ?_ NB508_512.out _; (with_reducible repeat (first | refine kN_ ?_ _ | refine kD_ ?_ | refine kA_ ?_ _)); refine blk_far ?_ NB508_512.out _; (with_reducible repeat (first | refine kN_ ?_ _ | refine kD_ ?_ | refine kA_ ?_ _)); exact BK508.out⟩, ⟨by (with_reducible repeat (first | refine kN_ ?_ _ | refine kD_ ?_ | refine kA_ ?_ _)); refine kP_ (cs := #[.int .i64 t509, .int .i64 0, .string (⟨#[]⟩ : ByteArray)]) ?_ 2 _ rfl; (with_reducible repeat (first | refine kN_ ?_ _ | refine kD_ ?_ | refine kA_ ?_ _)); refine kP_ (cs := #[.int .i64 t509, .int .i64 0, .string (⟨#[]⟩ : ByteArray)]) ?_ 1 _ rfl; (with_reducible repeat (first | refine kN_ ?_ _ | refine kD_ ?_ | refine kA_ ?_ _)); refine kP_ (cs := #[.int .i64 0, .int .i64 0, .string (⟨#[]⟩ : ByteArray)]) ?_ 0 _ rfl; (with_reducible repeat (first | refine kN_ ?_ _ | refine kD_ ?_ | refine kA_ ?_ _)); exact BK512.out⟩, ⟨by repeat (first | (with_reducible first | exact HB.out | apply bA_ | apply bN_ | apply bD_ | refine bE_ ?_ GE508.out | refine bE_ ?_ GE512.out) | exact HB.out)⟩⟩
   ·rw [if_neg c10] at H
    have c10b0 : (t509 == 1) = false := beq_eq_false_iff_ne.mpr c10
    have c10b1 : (t509 != 1) = true := bne_iff_ne.mpr c10
    (first | rw [c10b0] | (simp only [i64_w, i32_w]; rw [c10b0]) | skip)
    have H' := aM_ H
    clear H
    go_wp2
    (first | go_meet | (refine Met.intro ?_; go_step; (repeat apply Exists.intro); refine ⟨?rel, ?eq⟩; (case eq => (try simp only [c9b0]); (try simp only [c10b0]); (try simp only [c10b0]); rfl)))
    case rel => exact ⟨_, ((t509 == 2)), (by first | rfl | (simp; done) | (simp [*]; done)), H', ⟨by first | omega | exact Nat.le_refl _⟩, ⟨by (with_reducible repeat (first | refine kN_ ?_ _ | refine kD_ ?_ | refine kA_ ?_ _)); refine blk_far ?_ NB508_512.out _; (with_reducible repeat (first | refine kN_ ?_ _ | refine kD_ ?_ | refine kA_ ?_ _)); refine blk_far ?_ NB508_512.out _; (with_reducible repeat (first | refine kN_ ?_ _ | refine kD_ ?_ | refine kA_ ?_ _)); refine blk_far ?_ NB508_512.out _; (with_reducible repeat (first | refine kN_ ?_ _ | refine kD_ ?_ | refine kA_ ?_ _)); exact BK508.out⟩, ⟨by (with_reducible repeat (first | refine kN_ ?_ _ | refine kD_ ?_ | refine kA_ ?_ _)); refine kP_ (cs := #[.int .i64 t509, .int .i64 0, .string (⟨#[]⟩ : ByteArray)]) ?_ 2 _ rfl; (with_reducible repeat (first | refine kN_ ?_ _ | refine kD_ ?_ | refine kA_ ?_ _)); refine kP_ (cs := #[.int .i64 t509, .int .i64 0, .string (⟨#[]⟩ : ByteArray)]) ?_ 1 _ rfl; (with_reducible repeat (first | refine kN_ ?_ _ | refine kD_ ?_ | refine kA_ ?_ _)); refine kP_ (cs := #[.int .i64 0, .int .i64 0, .string (⟨#[]⟩ : ByteArray)]) ?_ 0 _ rfl; (with_reducible repeat (first | refine kN_ ?_ _ | refine kD_ ?_ | refine kA_ ?_ _)); exact BK512.out⟩, ⟨by repeat (first | (with_reducible first | exact HB.out | apply bA_ | apply bN_ | apply bD_ | refine bE_ ?_ GE508.out | refine bE_ ?_ GE512.out) | exact HB.out)⟩⟩
  case rest =>
   clear HC5
   try clear c1
   try clear p2
   try clear c4
   try clear c7
   try clear c8
   try clear c9
   try clear c9b0
   try clear c10
   try clear c10b0
   try clear c10b1
   try clear hcz9_0
   try clear hcz9_1
   try clear hcz9_2
   try clear hfz9_0
   try clear hfz9_1
   try clear hfz9_2
   obtain ⟨kq, x24_4, rfl, HA, HJ4, BK508, BK512, HB⟩ := hcut
   cases kq with
   | zero => exact absurd HA.out (by simp [impl_valueAt.j0])
   | succ kj4 =>
    have H := HA.out
    clear HA
    simp only [impl_valueAt.j0] at H
    by_cases c11 : x24_4 = true
    ·subst c11
     have H1 : ((impl_GetVar.f kj4 l0 t510).bind fun bt513 => (some (t509, bt513.1, (⟨#[]⟩ : ByteArray), bt513.2.1, bt513.2.2))) = some (r1, r2, r3, r4, r5) := by rw [if_pos rfl] at H; exact H
     clear H
     have H := H1
     clear H1
     replace H := oB_ H
     obtain ⟨⟨t513, t514, t515⟩, A120, H⟩ := H
     replace H : (some (t509, t513, (⟨#[]⟩ : ByteArray), t514, t515)) = some (r1, r2, r3, r4, r5) := H
     have A12 := aM_ A120
     clear A120
     simp only [Option.some.injEq, Prod.mk.injEq] at H
     obtain ⟨rfl, rfl, rfl, rfl, rfl⟩ := H
     go_wp2_with (first | ((with_reducible refine gate_callee (f := 165) rfl ?_); refine goesL_ (some 30) rfl rfl Try.func165 (by kernel_rfl) rfl #[.slice A0 l0.length c0, .int .i64 t510] rfl (by (try simp only [mA_, mC_, mN_]); first | done | rfl | (simp only [lD_, lT_]; rfl)) ?_; (with_reducible refine (impl_GetVar.calls kj4 _ _ l0 t510 t513 t514 t515 _ ?side1 ?side2 A12.out).mono ?_); (case side1 => repeat (first | exact (Kd.C_below HR0.out HB.out) | (with_reducible refine cA_ ?_ _) | (with_reducible refine cN_ ?_ _) | (with_reducible refine cD_ ?_))); (case side2 => exact HC0.out); rintro e w' ⟨rfl, ⟨nd, rfl⟩⟩; refine ⟨_, rfl, ?_⟩; (try (rw [drewN_self wc]; generalize hq_ : World.drewN wc _ = wc; have n0_ : Aside0 (wc.heap[gb508]? = some (.cells #[.int .i64 0, .int .i64 0, .string (⟨#[]⟩ : ByteArray)] 116 (0, 0))) := ⟨by rw [← hq_]; exact (by (with_reducible repeat (first | refine kN_ ?_ _ | refine kD_ ?_ | refine kA_ ?_ _)); exact BK508.out)⟩; have n1_ : Aside0 (wc.heap[gb512]? = some (.cells #[.int .i64 t509, .int .i64 0, .string (⟨#[]⟩ : ByteArray)] 116 (0, 0))) := ⟨by rw [← hq_]; exact (by (with_reducible repeat (first | refine kN_ ?_ _ | refine kD_ ?_ | refine kA_ ?_ _)); exact BK512.out)⟩; have n2_ : Aside0 (Below w.heap.size w wc) := ⟨by rw [← hq_]; exact (by repeat (first | (with_reducible first | exact HB.out | apply bA_ | apply bN_ | apply bD_ | refine bE_ ?_ GE508.out | refine bE_ ?_ GE512.out) | exact HB.out))⟩; clear BK508 BK512 HB hq_; have BK508 := n0_; have BK512 := n1_; have HB := n2_; clear n0_ n1_ n2_)); have hnb13 := NB512_508.out; have hnc13 := NB508_512.out; have hcz14_0 : wc.cell? ⟨gb512, 0, none⟩ = some (.int .i64 t509) := (kC_ BK512.out 0).trans rfl; have hcz14_1 : wc.cell? ⟨gb512, 1, none⟩ = some (.int .i64 0) := (kC_ BK512.out 1).trans rfl; have hcz14_2 : wc.cell? ⟨gb512, 2, none⟩ = some (.string (⟨#[]⟩ : ByteArray)) := (kC_ BK512.out 2).trans rfl; have hfz14_0 := kF_ BK512.out 0; have hfz14_1 := kF_ BK512.out 1; have hfz14_2 := kF_ BK512.out 2; have hcz15_0 : wc.cell? ⟨gb508, 0, none⟩ = some (.int .i64 0) := (kC_ BK508.out 0).trans rfl; have hcz15_1 : wc.cell? ⟨gb508, 1, none⟩ = some (.int .i64 0) := (kC_ BK508.out 1).trans rfl; have hcz15_2 : wc.cell? ⟨gb508, 2, none⟩ = some (.string (⟨#[]⟩ : ByteArray)) := (kC_ BK508.out 2).trans rfl; have hfz15_0 := kF_ BK508.out 0; have hfz15_1 := kF_ BK508.out 1; have hfz15_2 := kF_ BK508.out 2))
     refine bodyPost_ret (results_ctt rfl _ _ gb508 116 #[.int .i64 t509, .int .i64 t513, .string (⟨#[]⟩ : ByteArray)] (0, 0) _ rfl (by (with_reducible repeat (first | refine kN_ ?_ _ | refine kD_ ?_ | refine kA_ ?_ _)); refine kP_ (cs := #[.int .i64 t509, .int .i64 t513, .string (⟨#[]⟩ : ByteArray)]) ?_ 2 _ rfl; (with_reducible repeat (first | refine kN_ ?_ _ | refine kD_ ?_ | refine kA_ ?_ _)); refine kP_ (cs := #[.int .i64 t509, .int .i64 0, .string (⟨#[]⟩ : ByteArray)]) ?_ 1 _ rfl; (with_reducible repeat (first | refine kN_ ?_ _ | refine kD_ ?_ | refine kA_ ?_ _)); refine kP_ (cs := #[.int .i64 0, .int .i64 0, .string (⟨#[]⟩ : ByteArray)]) ?_ 0 _ rfl; (with_reducible repeat (first | refine kN_ ?_ _ | refine kD_ ?_ | refine kA_ ?_ _)); refine blk_far ?_ NB508_512.out _; (with_reducible repeat (first | refine kN_ ?_ _ | refine kD_ ?_ | refine kA_ ?_ _)); exact BK508.out) Try.underlying116 rfl (by kernel_rfl)) rfl ?_
     exact ⟨by first | rfl | (simp [errW_none, errW_some] <;> rfl) | (simp [*, errW_none, errW_some] <;> rfl), by repeat (first | (with_reducible first | exact HB.out | apply bA_ | apply bN_ | apply bD_ | refine bE_ ?_ GE508.out | refine bE_ ?_ GE512.out) | exact HB.out)⟩
    ·replace c11 := Bool.eq_false_iff.mpr c11
     subst c11
     have H1 : (if t509 = 3 then ((impl_GetText.f kj4 l0 t510).bind fun bt516 => (some (t509, 0, bt516.1, bt516.2.1, bt516.2.2))) else (if t509 = 4 then (if t510 ≥ (l0.length : Int) then (some (0, 0, (⟨#[]⟩ : ByteArray), 0, false)) else (if 0 ≤ t510 then (if t510 < (l0.length : Int) then (some (t509, wrap64 (rd l0 t510), (⟨#[]⟩ : ByteArray), wrap64 (t510 + 1), true)) else (none)) else (none))) else (some (t509, 0, (⟨#[]⟩ : ByteArray), t510, true)))) = some (r1, r2, r3, r4, r5) := by rw [if_neg (show ¬ (false = true) by decide)] at H; exact H
     clear H
     have H := H1
     clear H1
     by_cases c16 : t509 = 3
     ·rw [if_pos c16] at H
      have c16b0 : (t509 == 3) = true := beq_iff_eq.mpr c16
      have c16b1 : (t509 != 3) = false := bne_eq_false_iff_eq.mpr c16
      clear c16
      replace H := oB_ H
      obtain ⟨⟨t516, t517, t518⟩, A170, H⟩ := H
      replace H : (some (t509, 0, t516, t517, t518)) = some (r1, r2, r3, r4, r5) := H
      have A17 := aM_ A170
      clear A170
      simp only [Option.some.injEq, Prod.mk.injEq] at H
      obtain ⟨rfl, rfl, rfl, rfl, rfl⟩ := H
      go_wp2_with (first | ((with_reducible refine gate_callee (f := 80) rfl ?_); refine goesL_ (some 40) rfl rfl Try.func80 (by kernel_rfl) rfl #[.slice A0 l0.length c0, .int .i64 t510] rfl (by (try simp only [mA_, mC_, mN_]); first | done | rfl | (simp only [lD_, lT_]; rfl)) ?_; (with_reducible refine (impl_GetText.calls kj4 _ _ l0 t510 t516 t517 t518 _ ?side1 ?side2 A17.out).mono ?_); (case side1 => repeat (first | exact (Kd.C_below HR0.out HB.out) | (with_reducible refine cA_ ?_ _) | (with_reducible refine cN_ ?_ _) | (with_reducible refine cD_ ?_))); (case side2 => exact HC0.out); rintro e w' ⟨rfl, ⟨nd, rfl⟩⟩; refine ⟨_, rfl, ?_⟩; (try (rw [drewN_self wc]; generalize hq_ : World.drewN wc _ = wc; have n0_ : Aside0 (wc.heap[gb508]? = some (.cells #[.int .i64 0, .int .i64 0, .string (⟨#[]⟩ : ByteArray)] 116 (0, 0))) := ⟨by rw [← hq_]; exact (by (with_reducible repeat (first | refine kN_ ?_ _ | refine kD_ ?_ | refine kA_ ?_ _)); exact BK508.out)⟩; have n1_ : Aside0 (wc.heap[gb512]? = some (.cells #[.int .i64 t509, .int .i64 0, .string (⟨#[]⟩ : ByteArray)] 116 (0, 0))) := ⟨by rw [← hq_]; exact (by (with_reducible repeat (first | refine kN_ ?_ _ | refine kD_ ?_ | refine kA_ ?_ _)); exact BK512.out)⟩; have n2_ : Aside0 (Below w.heap.size w wc) := ⟨by rw [← hq_]; exact (by repeat (first | (with_reducible first | exact HB.out | apply bA_ | apply bN_ | apply bD_ | refine bE_ ?_ GE508.out | refine bE_ ?_ GE512.out) | exact HB.out))⟩; clear BK508 BK512 HB hq_; have BK508 := n0_; have BK512 := n1_; have HB := n2_; clear n0_ n1_ n2_)); have hnb18 := NB512_508.out; have hnc18 := NB508_512.out; have hcz19_0 : wc.cell? ⟨gb512, 0, none⟩ = some (.int .i64 t509) := (kC_ BK512.out 0).trans rfl; have hcz19_1 : wc.cell? ⟨gb512, 1, none⟩ = some (.int .i64 0) := (kC_ BK512.out 1).trans rfl; have hcz19_2 : wc.cell? ⟨gb512, 2, none⟩ = some (.string (⟨#[]⟩ : ByteArray)) := (kC_ BK512.out 2).trans rfl; have hfz19_0 := kF_ BK512.out 0; have hfz19_1 := kF_ BK512.out 1; have hfz19_2 := kF_ BK512.out 2; have hcz20_0 : wc.cell? ⟨gb508, 0, none⟩ = some (.int .i64 0) := (kC_ BK508.out 0).trans rfl; have hcz20_1 : wc.cell? ⟨gb508, 1, none⟩ = some (.int .i64 0) := (kC_ BK508.out 1).trans rfl; have hcz20_2 : wc.cell? ⟨gb508, 2, none⟩ = some (.string (⟨#[]⟩ : ByteArray)) := (kC_ BK508.out 2).trans rfl; have hfz20_0 := kF_ BK508.out 0; have hfz20_1 := kF_ BK508.out 1; have hfz20_2 := kF_ BK508.out 2))
      refine bodyPost_ret (results_ctt rfl _ _ gb508 116 #[.int .i64 t509, .int .i64 0, .string t516] (0, 0) _ rfl (by (with_reducible repeat (first | refine kN_ ?_ _ | refine kD_ ?_ | refine kA_ ?_ _)); refine kP_ (cs := #[.int .i64 t509, .int .i64 0, .string (⟨#[]⟩ : ByteArray)]) ?_ 2 _ rfl; (with_reducible repeat (first | refine kN_ ?_ _ | refine kD_ ?_ | refine kA_ ?_ _)); refine kP_ (cs := #[.int .i64 t509, .int .i64 0, .string (⟨#[]⟩ : ByteArray)]) ?_ 1 _ rfl; (with_reducible repeat (first | refine kN_ ?_ _ | refine kD_ ?_ | refine kA_ ?_ _)); refine kP_ (cs := #[.int .i64 0, .int .i64 0, .string (⟨#[]⟩ : ByteArray)]) ?_ 0 _ rfl; (with_reducible repeat (first | refine kN_ ?_ _ | refine kD_ ?_ | refine kA_ ?_ _)); refine blk_far ?_ NB508_512.out _; (with_reducible repeat (first | refine kN_ ?_ _ | refine kD_ ?_ | refine kA_ ?_ _)); exact BK508.out) Try.underlying116 rfl (by kernel_rfl)) rfl ?_
      exact ⟨by first | rfl | (simp [errW_none, errW_some] <;> rfl) | (simp [*, errW_none, errW_some] <;> rfl), by repeat (first | (with_reducible first | exact HB.out | apply bA_ | apply bN_ | apply bD_ | refine bE_ ?_ GE508.out | refine bE_ ?_ GE512.out) | exact HB.out)⟩
     ·rw [if_neg c16] at H
      have c16b0 : (t509 == 3) = false := beq_eq_false_iff_ne.mpr c16
      have c16b1 : (t509 != 3) = true := bne_iff_ne.mpr c16
      by_cases c21 : t509 = 4
      ·rw [if_pos c21] at H
       have c21b0 : (t509 == 4) = true := beq_iff_eq.mpr c21
       have c21b1 : (t509 != 4) = false := bne_eq_false_iff_eq.mpr c21
       clear c21
       by_cases c22 : t510 ≥ (l0.length : Int)
       ·rw [if_pos c22] at H
        have c22b0 : decide ((l0.length : Int) ≤ t510) = true := decide_eq_true c22
        clear c22
        simp only [Option.some.injEq, Prod.mk.injEq] at H
        obtain ⟨rfl, rfl, rfl, rfl, rfl⟩ := H
        have hnb23 := NB508_512.out
        have hnc23 := NB512_508.out
        have hcz24_0 : wc.cell? ⟨gb508, 0, none⟩ = some (.int .i64 0) := (kC_ BK508.out 0).trans rfl
        have hcz24_1 : wc.cell? ⟨gb508, 1, none⟩ = some (.int .i64 0) := (kC_ BK508.out 1).trans rfl
        have hcz24_2 : wc.cell? ⟨gb508, 2, none⟩ = some (.string (⟨#[]⟩ : ByteArray)) := (kC_ BK508.out 2).trans rfl
        have hfz24_0 := kF_ BK508.out 0
        have hfz24_1 := kF_ BK508.out 1
        have hfz24_2 := kF_ BK508.out 2
        go_wp2
        refine bodyPost_ret (results_ctt rfl _ _ gb508 116 #[.int .i64 0, .int .i64 0, .string (⟨#[]⟩ : ByteArray)] (0, 0) _ rfl (by (with_reducible repeat (first | refine kN_ ?_ _ | refine kD_ ?_ | refine kA_ ?_ _)); refine kP_ (cs := #[.int .i64 0, .int .i64 0, .string (⟨#[]⟩ : ByteArray)]) ?_ 2 _ rfl; (with_reducible repeat (first | refine kN_ ?_ _ | refine kD_ ?_ | refine kA_ ?_ _)); refine kP_ (cs := #[.int .i64 0, .int .i64 0, .string (⟨#[]⟩ : ByteArray)]) ?_ 1 _ rfl; (with_reducible repeat (first | refine kN_ ?_ _ | refine kD_ ?_ | refine kA_ ?_ _)); refine kP_ (cs := #[.int .i64 0, .int .i64 0, .string (⟨#[]⟩ : ByteArray)]) ?_ 0 _ rfl; (with_reducible repeat (first | refine kN_ ?_ _ | refine kD_ ?_ | refine kA_ ?_ _)); exact BK508.out) Try.underlying116 rfl (by kernel_rfl)) rfl ?_
        exact ⟨by first | rfl | (simp [errW_none, errW_some] <;> rfl) | (simp [*, errW_none, errW_some] <;> rfl), by repeat (first | (with_reducible first | exact HB.out | apply bA_ | apply bN_ | apply bD_ | refine bE_ ?_ GE508.out | refine bE_ ?_ GE512.out) | exact HB.out)⟩
       ·rw [if_neg c22] at H
        have c22b0 : decide ((l0.length : Int) ≤ t510) = false := decide_eq_false c22
        clear c22
        by_cases c25 : 0 ≤ t510
        ·rw [if_pos c25] at H
         have c25b0 : decide (0 ≤ t510) = true := decide_eq_true c25
         clear c25
         by_cases c26 : t510 < (l0.length : Int)
         ·rw [if_pos c26] at H
          have c26b0 : decide (t510 < (l0.length : Int)) = true := decide_eq_true c26
          clear c26
          simp only [Option.some.injEq, Prod.mk.injEq] at H
          obtain ⟨rfl, rfl, rfl, rfl, rfl⟩ := H
          have p519 : 0 ≤ (t510 : Int) := oT_ (by first | (with_reducible assumption) | assumption)
          have q519 : t510 < (l0.length : Int) := oT_ (by first | (with_reducible assumption) | assumption)
          obtain ⟨ad519, e519, hx519_0⟩ := Kd.at_int HR0.out t510 p519 q519
          cases e519
          replace hx519_0 := (HB.out.cell (wL_ w _ hx519_0)).trans hx519_0
          replace p519 := eq_true p519
          replace q519 := eq_true q519
          have hnb27 := NB512_508.out
          have hnc27 := NB508_512.out
          have hcz28_0 : wc.cell? ⟨gb512, 0, none⟩ = some (.int .i64 t509) := (kC_ BK512.out 0).trans rfl
          have hcz28_1 : wc.cell? ⟨gb512, 1, none⟩ = some (.int .i64 0) := (kC_ BK512.out 1).trans rfl
          have hcz28_2 : wc.cell? ⟨gb512, 2, none⟩ = some (.string (⟨#[]⟩ : ByteArray)) := (kC_ BK512.out 2).trans rfl
          have hfz28_0 := kF_ BK512.out 0
          have hfz28_1 := kF_ BK512.out 1
          have hfz28_2 := kF_ BK512.out 2
          have hcz29_0 : wc.cell? ⟨gb508, 0, none⟩ = some (.int .i64 0) := (kC_ BK508.out 0).trans rfl
          have hcz29_1 : wc.cell? ⟨gb508, 1, none⟩ = some (.int .i64 0) := (kC_ BK508.out 1).trans rfl
          have hcz29_2 : wc.cell? ⟨gb508, 2, none⟩ = some (.string (⟨#[]⟩ : ByteArray)) := (kC_ BK508.out 2).trans rfl
          have hfz29_0 := kF_ BK508.out 0
          have hfz29_1 := kF_ BK508.out 1
          have hfz29_2 := kF_ BK508.out 2
          go_wp2
          refine bodyPost_ret (results_ctt rfl _ _ gb508 116 #[.int .i64 t509, .int .i64 (wrap64 (rd l0 t510)), .string (⟨#[]⟩ : ByteArray)] (0, 0) _ rfl (by (with_reducible repeat (first | refine kN_ ?_ _ | refine kD_ ?_ | refine kA_ ?_ _)); refine kP_ (cs := #[.int .i64 t509, .int .i64 (wrap64 (rd l0 t510)), .string (⟨#[]⟩ : ByteArray)]) ?_ 2 _ rfl; (with_reducible repeat (first | refine kN_ ?_ _ | refine kD_ ?_ | refine kA_ ?_ _)); refine kP_ (cs := #[.int .i64 t509, .int .i64 0, .string (⟨#[]⟩ : ByteArray)]) ?_ 1 _ rfl; (with_reducible repeat (first | refine kN_ ?_ _ | refine kD_ ?_ | refine kA_ ?_ _)); refine kP_ (cs := #[.int .i64 0, .int .i64 0, .string (⟨#[]⟩ : ByteArray)]) ?_ 0 _ rfl; (with_reducible repeat (first | refine kN_ ?_ _ | refine kD_ ?_ | refine kA_ ?_ _)); refine blk_far ?_ NB508_512.out _; (with_reducible repeat (first | refine kN_ ?_ _ | refine kD_ ?_ | refine kA_ ?_ _)); exact BK508.out) Try.underlying116 rfl (by kernel_rfl)) rfl ?_
          exact ⟨by first | rfl | (simp [errW_none, errW_some] <;> rfl) | (simp [*, errW_none, errW_some] <;> rfl), by repeat (first | (with_reducible first | exact HB.out | apply bA_ | apply bN_ | apply bD_ | refine bE_ ?_ GE508.out | refine bE_ ?_ GE512.out) | exact HB.out)⟩
         ·rw [if_neg c26] at H
          exact absurd H (by simp)
        ·rw [if_neg c25] at H
         exact absurd H (by simp)
      ·rw [if_neg c21] at H
       have c21b0 : (t509 == 4) = false := beq_eq_false_iff_ne.mpr c21
       have c21b1 : (t509 != 4) = true := bne_iff_ne.mpr c21
       simp only [Option.some.injEq, Prod.mk.injEq] at H
       obtain ⟨rfl, rfl, rfl, rfl, rfl⟩ := H
       have hnb30 := NB512_508.out
       have hnc30 := NB508_512.out
       have hcz31_0 : wc.cell? ⟨gb512, 0, none⟩ = some (.int .i64 t509) := (kC_ BK512.out 0).trans rfl
       have hcz31_1 : wc.cell? ⟨gb512, 1, none⟩ = some (.int .i64 0) := (kC_ BK512.out 1).trans rfl
       have hcz31_2 : wc.cell? ⟨gb512, 2, none⟩ = some (.string (⟨#[]⟩ : ByteArray)) := (kC_ BK512.out 2).trans rfl
       have hfz31_0 := kF_ BK512.out 0
       have hfz31_1 := kF_ BK512.out 1
       have hfz31_2 := kF_ BK512.out 2
       have hcz32_0 : wc.cell? ⟨gb508, 0, none⟩ = some (.int .i64 0) := (kC_ BK508.out 0).trans rfl
       have hcz32_1 : wc.cell? ⟨gb508, 1, none⟩ = some (.int .i64 0) := (kC_ BK508.out 1).trans rfl
       have hcz32_2 : wc.cell? ⟨gb508, 2, none⟩ = some (.string (⟨#[]⟩ : ByteArray)) := (kC_ BK508.out 2).trans rfl
       have hfz32_0 := kF_ BK508.out 0
       have hfz32_1 := kF_ BK508.out 1
       have hfz32_2 := kF_ BK508.out 2
       go_wp2
       refine bodyPost_ret (results_ctt rfl _ _ gb508 116 #[.int .i64 t509, .int .i64 0, .string (⟨#[]⟩ : ByteArray)] (0, 0) _ rfl (by (with_reducible repeat (first | refine kN_ ?_ _ | refine kD_ ?_ | refine kA_ ?_ _)); refine kP_ (cs := #[.int .i64 t509, .int .i64 0, .string (⟨#[]⟩ : ByteArray)]) ?_ 2 _ rfl; (with_reducible repeat (first | refine kN_ ?_ _ | refine kD_ ?_ | refine kA_ ?_ _)); refine kP_ (cs := #[.int .i64 t509, .int .i64 0, .string (⟨#[]⟩ : ByteArray)]) ?_ 1 _ rfl; (with_reducible repeat (first | refine kN_ ?_ _ | refine kD_ ?_ | refine kA_ ?_ _)); refine kP_ (cs := #[.int .i64 0, .int .i64 0, .string (⟨#[]⟩ : ByteArray)]) ?_ 0 _ rfl; (with_reducible repeat (first | refine kN_ ?_ _ | refine kD_ ?_ | refine kA_ ?_ _)); exact BK508.out) Try.underlying116 rfl (by kernel_rfl)) rfl ?_
       exact ⟨by first | rfl | (simp [errW_none, errW_some] <;> rfl) | (simp [*, errW_none, errW_some] <;> rfl), by repeat (first | (with_reducible first | exact HB.out | apply bA_ | apply bN_ | apply bD_ | refine bE_ ?_ GE508.out | refine bE_ ?_ GE512.out) | exact HB.out)⟩
 ·replace c4 := Bool.eq_false_iff.mpr c4
  subst c4
  have H1 : (some (0, 0, (⟨#[]⟩ : ByteArray), 0, false)) = some (r1, r2, r3, r4, r5) := by rw [if_neg (show ¬ (false = true) by decide)] at H; exact H
  clear H
  have H := H1
  clear H1
  simp only [Option.some.injEq, Prod.mk.injEq] at H
  obtain ⟨rfl, rfl, rfl, rfl, rfl⟩ := H
  go_enter Try.func115, Try.ntmps115
  go_wp2_with (first | ((with_reducible refine gate_dst (N := 4) rfl ?_); refine box_event ?hg (N := 4) ?hd (cs := #[.int .i64 0, .int .i64 0, .string (⟨#[]⟩ : ByteArray)]) (t := 116) ?hr ?_; (case hd => rfl); (case hg => rfl); (case hr => first | (go_simp; done) | (go_simp; rfl)); intro gb508 hg w33 hbox hb; have n0_ := aM_ (bT_ (by repeat (first | (with_reducible first | exact HB.out | apply bA_ | apply bN_ | apply bD_) | exact HB.out)) hb); have n1_ := aM_ (hbox); have n2_ := aM_ ((by rw [hg]; exact (bS_ (by repeat (first | (with_reducible first | exact HB.out | apply bA_ | apply bN_ | apply bD_) | exact HB.out))) : w.heap.size ≤ gb508)); have n3_ := aM_ ((by rw [hg]; exact (bS_ (by repeat (first | (with_reducible first | exact HB.out | apply bA_ | apply bN_ | apply bD_) | exact HB.out))) : w.heap.size ≤ gb508)); clear HB; have HB := n0_; have BK508 := n1_; have GW508 := n2_; have GE508 := n3_; clear n0_ n1_ n2_ n3_; clear hb hbox hg) | ((with_reducible refine gate_callee (f := 78) rfl ?_); refine goesL_ (some 14) rfl rfl Try.func78 (by kernel_rfl) rfl #[.slice A0 l0.length c0, .int .i64 a1] rfl (by (try simp only [mA_, mC_, mN_]); first | done | rfl | (simp only [lD_, lT_]; rfl)) ?_; (with_reducible refine (impl_GetU.calls k _ _ l0 a1 t509 t510 false _ ?side1 ?side2 A3.out).mono ?_); (case side1 => repeat (first | exact (Kd.C_below HR0.out HB.out) | (with_reducible refine cA_ ?_ _) | (with_reducible refine cN_ ?_ _) | (with_reducible refine cD_ ?_))); (case side2 => exact HC0.out); rintro e w' ⟨rfl, ⟨nd, rfl⟩⟩; refine ⟨_, rfl, ?_⟩; (try (rw [drewN_self w33]; generalize hq_ : World.drewN w33 _ = w33; have n0_ : Aside0 (w33.heap[gb508]? = some (.cells #[.int .i64 0, .int .i64 0, .string (⟨#[]⟩ : ByteArray)] 116 (0, 0))) := ⟨by rw [← hq_]; exact (by (with_reducible repeat (first | refine kN_ ?_ _ | refine kD_ ?_ | refine kA_ ?_ _)); exact BK508.out)⟩; have n1_ : Aside0 (Below w.heap.size w w33) := ⟨by rw [← hq_]; exact (by repeat (first | (with_reducible first | exact HB.out | apply bA_ | apply bN_ | apply bD_ | refine bE_ ?_ GE508.out) | exact HB.out))⟩; clear BK508 HB hq_; have BK508 := n0_; have HB := n1_; clear n0_ n1_))) | ((with_reducible refine gate_dst (N := 10) rfl ?_); refine box_event ?hg (N := 10) ?hd (cs := #[.int .i64 0, .int .i64 0, .string (⟨#[]⟩ : ByteArray)]) (t := 116) ?hr ?_; (case hd => rfl); (case hg => rfl); (case hr => first | (go_simp; done) | (go_simp; rfl)); intro gb512 hg w34 hbox hb; have n0_ := aM_ (blk_below (g := gb508) (o := .cells #[.int .i64 0, .int .i64 0, .string (⟨#[]⟩ : ByteArray)] 116 (0, 0)) (by (with_reducible repeat (first | refine kN_ ?_ _ | refine kD_ ?_ | refine kA_ ?_ _)); exact BK508.out) hb); have n1_ := aM_ (bT_ (by repeat (first | (with_reducible first | exact HB.out | apply bA_ | apply bN_ | apply bD_ | refine bE_ ?_ GE508.out) | exact HB.out)) hb); have n2_ := aM_ (hbox); have n3_ := aM_ ((by rw [hg]; exact (bS_ (by repeat (first | (with_reducible first | exact HB.out | apply bA_ | apply bN_ | apply bD_ | refine bE_ ?_ GE508.out) | exact HB.out))) : w.heap.size ≤ gb512)); have n4_ := aM_ ((by rw [hg]; exact (bS_ (by repeat (first | (with_reducible first | exact HB.out | apply bA_ | apply bN_ | apply bD_ | refine bE_ ?_ GE508.out) | exact HB.out))) : w.heap.size ≤ gb512)); have n5_ := aM_ ((by rw [hg]; exact Nat.ne_of_lt (blk_lt (g := gb508) (o := .cells #[.int .i64 0, .int .i64 0, .string (⟨#[]⟩ : ByteArray)] 116 (0, 0)) (by (with_reducible repeat (first | refine kN_ ?_ _ | refine kD_ ?_ | refine kA_ ?_ _)); exact BK508.out)) : gb508 ≠ gb512)); have n6_ := aM_ ((by rw [hg]; exact Nat.ne_of_gt (blk_lt (g := gb508) (o := .cells #[.int .i64 0, .int .i64 0, .string (⟨#[]⟩ : ByteArray)] 116 (0, 0)) (by (with_reducible repeat (first | refine kN_ ?_ _ | refine kD_ ?_ | refine kA_ ?_ _)); exact BK508.out)) : gb512 ≠ gb508)); clear BK508; clear HB; have BK508 := n0_; have HB := n1_; have BK512 := n2_; have GW512 := n3_; have GE512 := n4_; have NB508_512 := n5_; have NB512_508 := n6_; clear n0_ n1_ n2_ n3_ n4_ n5_ n6_; clear hb hbox hg; have hnb35 := NB512_508.out; have hnc35 := NB508_512.out; have hcz36_0 : w34.cell? ⟨gb512, 0, none⟩ = some (.int .i64 0) := (kC_ BK512.out 0).trans rfl; have hcz36_1 : w34.cell? ⟨gb512, 1, none⟩ = some (.int .i64 0) := (kC_ BK512.out 1).trans rfl; have hcz36_2 : w34.cell? ⟨gb512, 2, none⟩ = some (.string (⟨#[]⟩ : ByteArray)) := (kC_ BK512.out 2).trans rfl; have hfz36_0 := kF_ BK512.out 0; have hfz36_1 := kF_ BK512.out 1; have hfz36_2 := kF_ BK512.out 2; have hcz37_0 : w34.cell? ⟨gb508, 0, none⟩ = some (.int .i64 0) := (kC_ BK508.out 0).trans rfl; have hcz37_1 : w34.cell? ⟨gb508, 1, none⟩ = some (.int .i64 0) := (kC_ BK508.out 1).trans rfl; have hcz37_2 : w34.cell? ⟨gb508, 2, none⟩ = some (.string (⟨#[]⟩ : ByteArray)) := (kC_ BK508.out 2).trans rfl; have hfz37_0 := kF_ BK508.out 0; have hfz37_1 := kF_ BK508.out 1; have hfz37_2 := kF_ BK508.out 2))
  refine bodyPost_ret (results_ctt rfl _ _ gb508 116 #[.int .i64 0, .int .i64 0, .string (⟨#[]⟩ : ByteArray)] (0, 0) _ rfl (by (with_reducible repeat (first | refine kN_ ?_ _ | refine kD_ ?_ | refine kA_ ?_ _)); refine kP_ (cs := #[.int .i64 0, .int .i64 0, .string (⟨#[]⟩ : ByteArray)]) ?_ 2 _ rfl; (with_reducible repeat (first | refine kN_ ?_ _ | refine kD_ ?_ | refine kA_ ?_ _)); refine kP_ (cs := #[.int .i64 0, .int .i64 0, .string (⟨#[]⟩ : ByteArray)]) ?_ 1 _ rfl; (with_reducible repeat (first | refine kN_ ?_ _ | refine kD_ ?_ | refine kA_ ?_ _)); refine kP_ (cs := #[.int .i64 0, .int .i64 0, .string (⟨#[]⟩ : ByteArray)]) ?_ 0 _ rfl; (with_reducible repeat (first | refine kN_ ?_ _ | refine kD_ ?_ | refine kA_ ?_ _)); refine blk_far ?_ NB508_512.out _; (with_reducible repeat (first | refine kN_ ?_ _ | refine kD_ ?_ | refine kA_ ?_ _)); refine blk_far ?_ NB508_512.out _; (with_reducible repeat (first | refine kN_ ?_ _ | refine kD_ ?_ | refine kA_ ?_ _)); refine blk_far ?_ NB508_512.out _; (with_reducible repeat (first | refine kN_ ?_ _ | refine kD_ ?_ | refine kA_ ?_ _)); exact BK508.out) Try.underlying116 rfl (by kernel_rfl)) rfl ?_
  exact ⟨by first | rfl | (simp [errW_none, errW_some] <;> rfl) | (simp [*, errW_none, errW_some] <;> rfl), by repeat (first | (with_reducible first | exact HB.out | apply bA_ | apply bN_ | apply bD_ | refine bE_ ?_ GE508.out | refine bE_ ?_ GE512.out) | exact HB.out)⟩

/-! ### impl_DecodeRow: function 47 -/
mutual
def impl_DecodeRow.j0 : Nat → List (S119) → List Int → List Int → Int → Int → Bool → Option ((List (S116)) × Bool)
 | 0, _, _, _, _, _, _ => none
 | k + 1, x0, x1, x6, x8, x9, x42 => if x42 = true then (some (([] : List (S116)), false)) else (impl_DecodeRow.l0 k x0 x1 x6 x9 ([] : List (S116)) x8 0)
def impl_DecodeRow.l0 : Nat → List (S119) → List Int → List Int → Int → List (S116) → Int → Int → Option ((List (S116)) × Bool)
 | 0, _, _, _, _, _, _, _ => none
 | k + 1, x0, x1, x6, x9, x11, x43, x44 => if x44 < x43 then ((impl_valueAt.f k x6 x9).bind fun bt527 => (if bt527.2.2.2.2 = true then (if x11.length < 4398046511104 then (impl_DecodeRow.l0 k x0 x1 x6 bt527.2.2.2.1 (x11 ++ [(⟨bt527.1, bt527.2.1, bt527.2.2.1⟩ : S116)]) x43 (wrap64 (x44 + 1))) else (none)) else (some (([] : List (S116)), false)))) else ((impl_EncodeRow.f k x0 x11).bind fun t536 => (if (t536.length : Int) = 0 then (some (([] : List (S116)), false)) else (if (strOfNums t536).toList = (strOfNums x1).toList then (some (x11, true)) else (some (([] : List (S116)), false)))))
end
def impl_DecodeRow.f (k : Nat) (l0 : List (S119)) (l1 : List Int) : Option ((List (S116)) × Bool) := (impl_GetSum.f k l1).bind fun bt520 => ((impl_GetU.f k bt520.1 0).bind fun bt524 => (if bt520.2 = true then (if bt524.2.2 = true then (if bt524.1 = (l0.length : Int) then (impl_DecodeRow.j0 k l0 l1 bt520.1 bt524.1 bt524.2.1 (decide (bt524.1 > 6))) else (impl_DecodeRow.j0 k l0 l1 bt520.1 bt524.1 bt524.2.1 true)) else (impl_DecodeRow.j0 k l0 l1 bt520.1 bt524.1 bt524.2.1 true)) else (impl_DecodeRow.j0 k l0 l1 bt520.1 bt524.1 bt524.2.1 true)))
theorem impl_DecodeRow.mono_l : ∀ k, (∀ y0 y1 y2 y3 y4 y5, LeO (impl_DecodeRow.j0 k y0 y1 y2 y3 y4 y5) (impl_DecodeRow.j0 (k + 1) y0 y1 y2 y3 y4 y5)) ∧ (∀ y0 y1 y2 y3 y4 y5 y6, LeO (impl_DecodeRow.l0 k y0 y1 y2 y3 y4 y5 y6) (impl_DecodeRow.l0 (k + 1) y0 y1 y2 y3 y4 y5 y6))
 | 0 => ⟨fun _ _ _ _ _ _ r h => by simp [impl_DecodeRow.j0] at h, fun _ _ _ _ _ _ _ r h => by simp [impl_DecodeRow.l0] at h⟩
 | k + 1 => by
  obtain ⟨ih0, ih1⟩ := impl_DecodeRow.mono_l k
  refine ⟨?_, ?_⟩
  ·intro y0 y1 y2 y3 y4 y5
   unfold impl_DecodeRow.j0
   repeat' first
   | (with_reducible exact ih0 _ _ _ _ _ _)
   | (with_reducible exact ih1 _ _ _ _ _ _ _)
   | (with_reducible exact impl_EncodeRow.mono _ _ _)
   | (with_reducible exact impl_GetSum.mono _ _)
   | (with_reducible exact impl_GetU.mono _ _ _)
   | (with_reducible exact impl_valueAt.mono _ _ _)
   | (with_reducible exact LeO.refl _)
   | (with_reducible exact LeO.none _)
   | (with_reducible refine LeO.ite ?_ ?_)
   | (with_reducible refine LeO.bind ?_ (fun _ => ?_))
   | exact ih0 _ _ _ _ _ _
   | exact ih1 _ _ _ _ _ _ _
   | exact impl_EncodeRow.mono _ _ _
   | exact impl_GetSum.mono _ _
   | exact impl_GetU.mono _ _ _
   | exact impl_valueAt.mono _ _ _
   | exact LeO.none _
   | refine LeO.ite ?_ ?_
   | refine LeO.bind ?_ (fun _ => ?_)
  ·intro y0 y1 y2 y3 y4 y5 y6
   unfold impl_DecodeRow.l0
   repeat' first
   | (with_reducible exact ih0 _ _ _ _ _ _)
   | (with_reducible exact ih1 _ _ _ _ _ _ _)
   | (with_reducible exact impl_EncodeRow.mono _ _ _)
   | (with_reducible exact impl_GetSum.mono _ _)
   | (with_reducible exact impl_GetU.mono _ _ _)
   | (with_reducible exact impl_valueAt.mono _ _ _)
   | (with_reducible exact LeO.refl _)
   | (with_reducible exact LeO.none _)
   | (with_reducible refine LeO.ite ?_ ?_)
   | (with_reducible refine LeO.bind ?_ (fun _ => ?_))
   | exact ih0 _ _ _ _ _ _
   | exact ih1 _ _ _ _ _ _ _
   | exact impl_EncodeRow.mono _ _ _
   | exact impl_GetSum.mono _ _
   | exact impl_GetU.mono _ _ _
   | exact impl_valueAt.mono _ _ _
   | exact LeO.none _
   | refine LeO.ite ?_ ?_
   | refine LeO.bind ?_ (fun _ => ?_)
theorem impl_DecodeRow.mono : ∀ a0 a1 k, LeO (impl_DecodeRow.f k a0 a1) (impl_DecodeRow.f (k + 1) a0 a1) := by
 intro a0 a1 k
 obtain ⟨ih0, ih1⟩ := impl_DecodeRow.mono_l k
 unfold impl_DecodeRow.f
 repeat' first
   | (with_reducible exact ih0 _ _ _ _ _ _)
   | (with_reducible exact ih1 _ _ _ _ _ _ _)
   | (with_reducible exact impl_EncodeRow.mono _ _ _)
   | (with_reducible exact impl_GetSum.mono _ _)
   | (with_reducible exact impl_GetU.mono _ _ _)
   | (with_reducible exact impl_valueAt.mono _ _ _)
   | (with_reducible exact LeO.refl _)
   | (with_reducible exact LeO.none _)
   | (with_reducible refine LeO.ite ?_ ?_)
   | (with_reducible refine LeO.bind ?_ (fun _ => ?_))
   | exact ih0 _ _ _ _ _ _
   | exact ih1 _ _ _ _ _ _ _
   | exact impl_EncodeRow.mono _ _ _
   | exact impl_GetSum.mono _ _
   | exact impl_GetU.mono _ _ _
   | exact impl_valueAt.mono _ _ _
   | exact LeO.none _
   | refine LeO.ite ?_ ?_
   | refine LeO.bind ?_ (fun _ => ?_)
set_option maxHeartbeats 8000000 in
set_option maxRecDepth 100000 in
theorem impl_DecodeRow.calls (k : Nat) (A0 : Option Addr) (c0 : Nat) (l0 : List (S119)) (A1 : Option Addr) (c1 : Nat) (l1 : List Int) (r1 : List (S116)) (r2 : Bool) (w : World) (hr0 : Kd.C k119 w A0 l0.length l0) (hc0 : l0.length ≤ c0) (hr1 : Kd.C (Kd.int .u8) w A1 l1.length l1) (hc1 : l1.length ≤ c1) (h : impl_DecodeRow.f k l0 l1 = some (r1, r2)) :
  Calls Try.prog 47 #[.slice A0 l0.length c0, .slice A1 l1.length c1] w fun e w' => ∃ v0_ : Value, e = .returned (.tuple #[v0_, .bool r2]) ∧ Kd.R k116 116 w' w.heap.size (fun _ => True) v0_ r1 ∧ Below w.heap.size w w' := by
 have hu116 := Try.underlying116
 have HR0 := aM_ hr0
 have HC0 := aM_ hc0
 clear hr0 hc0
 have HR1 := aM_ hr1
 have HC1 := aM_ hc1
 clear hr1 hc1
 have HB := aM_ (Below.refl w.heap.size w)
 have H : ((impl_GetSum.f k l1).bind fun bt520 => ((impl_GetU.f k bt520.1 0).bind fun bt524 => (if bt520.2 = true then (if bt524.2.2 = true then (if bt524.1 = (l0.length : Int) then (impl_DecodeRow.j0 k l0 l1 bt520.1 bt524.1 bt524.2.1 (decide (bt524.1 > 6))) else (impl_DecodeRow.j0 k l0 l1 bt520.1 bt524.1 bt524.2.1 true)) else (impl_DecodeRow.j0 k l0 l1 bt520.1 bt524.1 bt524.2.1 true)) else (impl_DecodeRow.j0 k l0 l1 bt520.1 bt524.1 bt524.2.1 true)))) = some (r1, r2) := h
 clear h
 replace H := oB_ H
 obtain ⟨⟨t520, t521⟩, A30, H⟩ := H
 replace H : ((impl_GetU.f k t520 0).bind fun bt524 => (if t521 = true then (if bt524.2.2 = true then (if bt524.1 = (l0.length : Int) then (impl_DecodeRow.j0 k l0 l1 t520 bt524.1 bt524.2.1 (decide (bt524.1 > 6))) else (impl_DecodeRow.j0 k l0 l1 t520 bt524.1 bt524.2.1 true)) else (impl_DecodeRow.j0 k l0 l1 t520 bt524.1 bt524.2.1 true)) else (impl_DecodeRow.j0 k l0 l1 t520 bt524.1 bt524.2.1 true))) = some (r1, r2) := H
 have A3 := aM_ A30
 clear A30
 replace H := oB_ H
 obtain ⟨⟨t524, t525, t526⟩, A40, H⟩ := H
 replace H : (if t521 = true then (if t526 = true then (if t524 = (l0.length : Int) then (impl_DecodeRow.j0 k l0 l1 t520 t524 t525 (decide (t524 > 6))) else (impl_DecodeRow.j0 k l0 l1 t520 t524 t525 true)) else (impl_DecodeRow.j0 k l0 l1 t520 t524 t525 true)) else (impl_DecodeRow.j0 k l0 l1 t520 t524 t525 true)) = some (r1, r2) := H
 have A4 := aM_ A40
 clear A40
 have HC5 := aM_ H
 clear H
 go_enter Try.func47, Try.ntmps47
 go_upto_region 3 with (first | ((with_reducible refine gate_callee (f := 114) rfl ?_); refine goesL_ (some 18) rfl rfl Try.func114 (by kernel_rfl) rfl #[.slice A1 l1.length c1] rfl (by (try simp only [mA_, mC_, mN_]); first | done | rfl | (simp only [lD_, lT_]; rfl)) ?_; (with_reducible refine (impl_GetSum.calls k _ _ l1 t520 t521 _ ?side1 ?side2 A3.out).mono ?_); (case side1 => repeat (first | exact HR1.out | (with_reducible refine cA_ ?_ _) | (with_reducible refine cN_ ?_ _) | (with_reducible refine cD_ ?_))); (case side2 => exact HC1.out); rintro e w6 ⟨v522, rfl, ho0, hb⟩; refine ⟨_, rfl, ?_⟩; have n0_ := aM_ (Kd.R_lower ho0 (bS_ (by repeat (first | (with_reducible first | exact HB.out | apply bA_ | apply bN_ | apply bD_) | exact HB.out)))); have n1_ := aM_ (bT_ (by repeat (first | (with_reducible first | exact HB.out | apply bA_ | apply bN_ | apply bD_) | exact HB.out)) hb); clear HB; have HO523 := n0_; have HB := n1_; clear n0_ n1_; (try clear hb); (try clear hb2); (try clear hk); (try clear hi); (try clear ho0); obtain ⟨Ao7, co7, eo7⟩ := Kd.R_slice HO523.out; subst eo7) | ((with_reducible refine gate_callee (f := 78) rfl ?_); refine goesL_ (some 23) rfl rfl Try.func78 (by kernel_rfl) rfl #[.slice Ao7 t520.length co7, .int .i64 0] rfl (by (try simp only [mA_, mC_, mN_]); first | done | rfl | (simp only [lD_, lT_]; rfl)) ?_; (with_reducible refine (impl_GetU.calls k _ _ t520 0 t524 t525 t526 _ ?side1 ?side2 A4.out).mono ?_); (case side1 => repeat (first | exact (Kd.R_reads' HO523.out).2.2 | (with_reducible refine cA_ ?_ _) | (with_reducible refine cN_ ?_ _) | (with_reducible refine cD_ ?_))); (case side2 => exact (Kd.R_reads' HO523.out).2.1); rintro e w' ⟨rfl, ⟨nd, rfl⟩⟩; refine ⟨_, rfl, ?_⟩))
 (try simp only [Act.put, sI_, sZ_, sS_])
 go_cut [42] (fun v42 wc => ∃ (kq : Nat) (x42_4 : Bool), v42 = .bool x42_4 ∧ Aside0 (impl_DecodeRow.j0 kq l0 l1 t520 t524 t525 x42_4 = some (r1, r2)) ∧ Aside0 (kq ≤ k) ∧ Aside0 (Kd.R (Kd.int .u8) 5 wc w.heap.size (fun _ => True) (.slice Ao7 t520.length co7) t520) ∧ Aside0 (Below w.heap.size w wc))
 case first =>
  have H := HC5.out
  clear HC5
  by_cases c8 : t521 = true
  ·subst c8
   have H1 : (if t526 = true then (if t524 = (l0.length : Int) then (impl_DecodeRow.j0 k l0 l1 t520 t524 t525 (decide (t524 > 6))) else (impl_DecodeRow.j0 k l0 l1 t520 t524 t525 true)) else (impl_DecodeRow.j0 k l0 l1 t520 t524 t525 true)) = some (r1, r2) := by rw [if_pos rfl] at H; exact H
   clear H
   have H := H1
   clear H1
   by_cases c9 : t526 = true
   ·subst c9
    have H1 : (if t524 = (l0.length : Int) then (impl_DecodeRow.j0 k l0 l1 t520 t524 t525 (decide (t524 > 6))) else (impl_DecodeRow.j0 k l0 l1 t520 t524 t525 true)) = some (r1, r2) := by rw [if_pos rfl] at H; exact H
    clear H
    have H := H1
    clear H1
    by_cases c10 : t524 = (l0.length : Int)
    ·rw [if_pos c10] at H
     have c10b0 : (t524 == (l0.length : Int)) = true := beq_iff_eq.mpr c10
     have c10b1 : (t524 != (l0.length : Int)) = false := bne_eq_false_iff_eq.mpr c10
     clear c10
     (first | rw [c10b0] | (simp only [i64_w, i32_w]; rw [c10b0]) | skip)
     have H' := aM_ H
     clear H
     go_wp2
     (first | go_meet | (refine Met.intro ?_; go_step; (repeat apply Exists.intro); refine ⟨?rel, ?eq⟩; (case eq => (try simp only [c10b0]); (try simp only [c10b0]); (try simp only [c10b0]); rfl)))
     case rel => exact ⟨_, (decide (t524 > 6)), (by first | rfl | (simp; done) | (simp [*]; done)), H', ⟨by first | omega | exact Nat.le_refl _⟩, ⟨by (with_reducible repeat (first | apply rA_ | apply rN_ | apply rD_)); exact HO523.out⟩, ⟨by repeat (first | (with_reducible first | exact HB.out | apply bA_ | apply bN_ | apply bD_) | exact HB.out)⟩⟩
    ·rw [if_neg c10] at H
     have c10b0 : (t524 == (l0.length : Int)) = false := beq_eq_false_iff_ne.mpr c10
     have c10b1 : (t524 != (l0.length : Int)) = true := bne_iff_ne.mpr c10
     (first | rw [c10b0] | (simp only [i64_w, i32_w]; rw [c10b0]) | skip)
     have H' := aM_ H
     clear H
     go_wp2
     (first | go_meet | (refine Met.intro ?_; go_step; (repeat apply Exists.intro); refine ⟨?rel, ?eq⟩; (case eq => (try simp only [c10b0]); (try simp only [c10b0]); (try simp only [c10b0]); rfl)))
     case rel => exact ⟨_, (true), (by first | rfl | (simp; done) | (simp [*]; done)), H', ⟨by first | omega | exact Nat.le_refl _⟩, ⟨by (with_reducible repeat (first | apply rA_ | apply rN_ | apply rD_)); exact HO523.out⟩, ⟨by repeat (first | (with_reducible first | exact HB.out | apply bA_ | apply bN_ | apply bD_) | exact HB.out)⟩⟩
   ·replace c9 := Bool.eq_false_iff.mpr c9
    subst c9
    have H1 : (impl_DecodeRow.j0 k l0 l1 t520 t524 t525 true) = some (r1, r2) := by rw [if_neg (show ¬ (false = true) by decide)] at H; exact H
    clear H
    have H := H1
    clear H1
    have H' := aM_ H
    clear H
    go_wp2
    (first | go_meet | (refine Met.intro ?_; go_step; (repeat apply Exists.intro); refine ⟨?rel, ?eq⟩; (case eq => (try simp only [c10b0]); (try simp only [c10b0]); (try simp only [c10b0]); rfl)))
    case rel => exact ⟨_, (true), (by first | rfl | (simp; done) | (simp [*]; done)), H', ⟨by first | omega | exact Nat.le_refl _⟩, ⟨by (with_reducible repeat (first | apply rA_ | apply rN_ | apply rD_)); exact HO523.out⟩, ⟨by repeat (first | (with_reducible first | exact HB.out | apply bA_ | apply bN_ | apply bD_) | exact HB.out)⟩⟩
  ·replace c8 := Bool.eq_false_iff.mpr c8
   subst c8
   have H1 : (impl_DecodeRow.j0 k l0 l1 t520 t524 t525 true) = some (r1, r2) := by rw [if_neg (show ¬ (false = true) by decide)] at H; exact H
   clear H
   have H := H1
   clear H1
   have H' := aM_ H
   clear H
   go_wp2
   (first | go_meet | (refine Met.intro ?_; go_step; (repeat apply Exists.intro); refine ⟨?rel, ?eq⟩; (case eq => (try simp only [c10b0]); (try simp only [c10b0]); (try simp only [c10b0]); rfl)))
   case rel => exact ⟨_, (true), (by first | rfl | (simp; done) | (simp [*]; done)), H', ⟨by first | omega | exact Nat.le_refl _⟩, ⟨by (with_reducible repeat (first | apply rA_ | apply rN_ | apply rD_)); exact HO523.out⟩, ⟨by repeat (first | (with_reducible first | exact HB.out | apply bA_ | apply bN_ | apply bD_) | exact HB.out)⟩⟩
 case rest =>
  clear HC5
  try clear c1
  try clear p2
  try clear c4
  try clear c7
  try clear c8
  try clear c9
  try clear c10
  try clear c10b0
  try clear c10b1
  obtain ⟨kq, x42_4, rfl, HA, HJ4, HO_6, HB⟩ := hcut
  cases kq with
  | zero => exact absurd HA.out (by simp [impl_DecodeRow.j0])
  | succ kj4 =>
   have H := HA.out
   clear HA
   simp only [impl_DecodeRow.j0] at H
   by_cases c11 : x42_4 = true
   ·subst c11
    have H1 : (some (([] : List (S116)), false)) = some (r1, r2) := by rw [if_pos rfl] at H; exact H
    clear H
    have H := H1
    clear H1
    simp only [Option.some.injEq, Prod.mk.injEq] at H
    obtain ⟨rfl, rfl⟩ := H
    go_wp2
    go_ret2
    exact ⟨_, by first | rfl | (simp [errW_none, errW_some] <;> rfl) | (simp [*, errW_none, errW_some] <;> rfl), by first | exact Kd.R_nil _ _ _ _ _ | exact Kd.N_nil _ _ _ _ _ | exact Kd.V_nil _ _ _ _ _ | exact Kd.Q_nil _ _ _ _ _ | exact Kd.S_nil _ _ _ _ _, by repeat (first | (with_reducible first | exact HB.out | apply bA_ | apply bN_ | apply bD_) | exact HB.out)⟩
   ·replace c11 := Bool.eq_false_iff.mpr c11
    subst c11
    have H1 : (impl_DecodeRow.l0 kj4 l0 l1 t520 t525 ([] : List (S116)) t524 0) = some (r1, r2) := by rw [if_neg (show ¬ (false = true) by decide)] at H; exact H
    clear H
    have H := H1
    clear H1
    have H' := aM_ H
    clear H
    go_wp2
    (try simp only [Act.put, sI_, sS_, sZ_])
    go_loopg [9, 11, 44] kj4 (fun kq v9 v11 v44 w' => ∃ (x9_2 : Int) (x11_2 : List (S116)) (x44_2 : Int), v9 = .int .i64 x9_2 ∧ v44 = .int .i64 x44_2 ∧ Aside0 (impl_DecodeRow.l0 kq l0 l1 t520 x9_2 x11_2 t524 x44_2 = some (r1, r2)) ∧ Aside0 (kq ≤ kj4) ∧ Aside0 (Kd.R (Kd.int .u8) 5 w' w.heap.size (fun _ => True) (.slice Ao7 t520.length co7) t520) ∧ Aside0 (Kd.R k116 116 w' w.heap.size (fun _ => True) v11 x11_2) ∧ Aside0 (Below w.heap.size w w'))
    case atStart => exact ⟨(t525), (([] : List (S116))), (0), (by first | rfl | (simp; done) | (simp [*]; done)), (by first | rfl | (simp; done) | (simp [*]; done)), H', ⟨Nat.le_refl _⟩, ⟨by (with_reducible repeat (first | apply rA_ | apply rN_ | apply rD_)); exact HO_6.out⟩, ⟨by first | exact Kd.R_nil _ _ _ _ _ | exact Kd.N_nil _ _ _ _ _ | exact Kd.V_nil _ _ _ _ _ | exact Kd.Q_nil _ _ _ _ _ | exact Kd.S_nil _ _ _ _ _⟩, ⟨by repeat (first | (with_reducible first | exact HB.out | apply bA_ | apply bN_ | apply bD_) | exact HB.out)⟩⟩
    case round =>
     clear H'
     try clear c1
     try clear p2
     try clear c4
     try clear c7
     try clear c8
     try clear c9
     try clear c10
     try clear c10b0
     try clear c10b1
     try clear c11
     try clear p2
     obtain ⟨x9_2, x11_2, x44_2, rfl, rfl, HA, HK2, HO_6, HO_11, HB⟩ := hrel
     cases gk with
     | zero => exact absurd HA.out (by simp [impl_DecodeRow.l0])
     | succ k2 =>
      have H := HA.out
      clear HA
      simp only [impl_DecodeRow.l0] at H
      by_cases c12 : x44_2 < t524
      ·rw [if_pos c12] at H
       have c12b0 : decide (x44_2 < t524) = true := decide_eq_true c12
       clear c12
       replace H := oB_ H
       obtain ⟨⟨t527, t528, t529, t530, t531⟩, A130, H⟩ := H
       replace H : (if t531 = true then (if x11_2.length < 4398046511104 then (impl_DecodeRow.l0 k2 l0 l1 t520 t530 (x11_2 ++ [(⟨t527, t528, t529⟩ : S116)]) t524 (wrap64 (x44_2 + 1))) else (none)) else (some (([] : List (S116)), false))) = some (r1, r2) := H
       have A13 := aM_ A130
       clear A130
       by_cases c14 : t531 = true
       ·subst c14
        have H1 : (if x11_2.length < 4398046511104 then (impl_DecodeRow.l0 k2 l0 l1 t520 t530 (x11_2 ++ [(⟨t527, t528, t529⟩ : S116)]) t524 (wrap64 (x44_2 + 1))) else (none)) = some (r1, r2) := by rw [if_pos rfl] at H; exact H
        clear H
        have H := H1
        clear H1
        by_cases c15 : x11_2.length < 4398046511104
        ·rw [if_pos c15] at H
         have LMc15 := aM_ c15
         clear c15
         obtain ⟨y533, hy533⟩ : ∃ y_ : List (S116), y_ = (x11_2 ++ [(⟨t527, t528, t529⟩ : S116)]) := ⟨_, rfl⟩
         replace H : (impl_DecodeRow.l0 k2 l0 l1 t520 t530 y533 t524 (wrap64 (x44_2 + 1))) = some (r1, r2) := by first | (rw [hy533]; with_reducible exact H) | (have H2_ := (Option.bind_some _ _).symm.trans H; rw [hy533]; with_reducible exact H2_) | (have H2_ := (Option.bind_some _ _).symm.trans H; with_reducible exact H2_) | with_reducible exact H | (rw [hy533]; exact H) | exact H
         have Ny533 := aM_ hy533
         clear hy533
         have H' := aM_ H
         clear H
         go_wp2_with (first | ((with_reducible refine gate_callee (f := 115) rfl ?_); refine goesL_ (some 49) rfl rfl Try.func115 (by kernel_rfl) rfl #[.slice Ao7 t520.length co7, .int .i64 x9_2] rfl (by (try simp only [mA_, mC_, mN_]); first | done | rfl | (simp only [lD_, lT_]; rfl)) ?_; (with_reducible refine (impl_valueAt.calls k2 _ _ t520 x9_2 t527 t528 t529 t530 true _ ?side1 ?side2 A13.out).mono ?_); (case side1 => repeat (first | exact (Kd.R_reads' HO_6.out).2.2 | (with_reducible refine cA_ ?_ _) | (with_reducible refine cN_ ?_ _) | (with_reducible refine cD_ ?_))); (case side2 => exact (Kd.R_reads' HO_6.out).2.1); rintro e w16 ⟨rfl, hb⟩; refine ⟨_, rfl, ?_⟩; have n0_ := aM_ (Kd.R_below (by (with_reducible repeat (first | apply rA_ | apply rN_ | apply rD_)); exact HO_6.out) hb); have n1_ := aM_ (Kd.R_below (by (with_reducible repeat (first | apply rA_ | apply rN_ | apply rD_)); exact HO_11.out) hb); have n2_ := aM_ (bT_ (by repeat (first | (with_reducible first | exact HB.out | apply bA_ | apply bN_ | apply bD_) | exact HB.out)) hb); clear HO_6; clear HO_11; clear HB; have HO_6 := n0_; have HO_11 := n1_; have HB := n2_; clear n0_ n1_ n2_; (try clear hb); (try clear hb2); (try clear hk); (try clear hi)) | ((with_reducible refine gate_dst (N := 12) rfl ?_); (try (refine gate_guard (by rfl) ?_; dsimp only)); refine box_event ?hg (N := 12) ?hd (cs := #[.int .i64 0, .int .i64 0, .string (⟨#[]⟩ : ByteArray)]) (t := 116) ?hr ?_; (case hd => rfl); (case hg => rfl); (case hr => first | (go_simp; done) | (go_simp; rfl)); intro gb532 hg w17 hbox hb; have n0_ := aM_ (Kd.R_below (by (with_reducible repeat (first | apply rA_ | apply rN_ | apply rD_)); exact HO_6.out) hb); have n1_ := aM_ (Kd.R_below (Kd.R_elderB (by (with_reducible repeat (first | apply rA_ | apply rN_ | apply rD_)); exact HO_11.out) gb532 (Nat.le_of_eq hg.symm)) hb); have n2_ := aM_ (bT_ (by repeat (first | (with_reducible first | exact HB.out | apply bA_ | apply bN_ | apply bD_) | exact HB.out)) hb); have n3_ := aM_ (hbox); have n4_ := aM_ ((by rw [hg]; exact (bS_ (by repeat (first | (with_reducible first | exact HB.out | apply bA_ | apply bN_ | apply bD_) | exact HB.out))) : w.heap.size ≤ gb532)); have n5_ := aM_ ((by rw [hg]; exact (bS_ (by repeat (first | (with_reducible first | exact HB.out | apply bA_ | apply bN_ | apply bD_) | exact HB.out))) : w.heap.size ≤ gb532)); clear HO_6; clear HO_11; clear HB; have HO_6 := n0_; have HO_11 := n1_; have HB := n2_; have BK532 := n3_; have GW532 := n4_; have GE532 := n5_; clear n0_ n1_ n2_ n3_ n4_ n5_; clear hb hbox hg; have hcz18_0 : w17.cell? ⟨gb532, 0, none⟩ = some (.int .i64 0) := (kC_ BK532.out 0).trans rfl; have hcz18_1 : w17.cell? ⟨gb532, 1, none⟩ = some (.int .i64 0) := (kC_ BK532.out 1).trans rfl; have hcz18_2 : w17.cell? ⟨gb532, 2, none⟩ = some (.string (⟨#[]⟩ : ByteArray)) := (kC_ BK532.out 2).trans rfl; have hfz18_0 := kF_ BK532.out 0; have hfz18_1 := kF_ BK532.out 1; have hfz18_2 := kF_ BK532.out 2) | ((with_reducible refine gate_builtin (b := .append) (xs := #[.tmp 55, .tmp 57]) rfl ?_); (try (refine gate_guard (by rfl) ?_; dsimp only)); at_builtin; refine Kd.R_append k116 (w0 := w) w.heap.size rfl (.tmp 55) (.tmp 57) 50 116 (.agg #[(.int .i64 0), (.int .i64 0), (.string ⟨#[]⟩)]) 32 rfl Try.underlying50 info116 rfl (by decide) (by omega) u11 x11_2 (⟨t527, t528, t529⟩ : S116) [.int .i64 t527, .int .i64 t528, .string t529] (fun k_ => k_ ≠ gb532) (fun _ => False) rfl (by first | (go_simp; done) | (go_simp; rfl)) ?aP (fun _ hk => hk.elim) ?aF ?aO ?aB ?aS ?aL ?_; (case aP => exact k116_mkM _ _ _ (⟨t527, t528, t529⟩ : S116)); (case aB => exact (by repeat (first | (with_reducible first | exact HB.out | apply bA_ | apply bN_ | apply bD_ | refine bE_ ?_ GE532.out) | exact HB.out))); (case aF => exact (fun k_ hk => Kd.freshB (g := gb532) (o := .cells #[.int .i64 t527, .int .i64 t528, .string t529] 116 (0, 0)) (by (with_reducible repeat (first | refine kN_ ?_ _ | refine kD_ ?_ | refine kA_ ?_ _)); refine kP_ (cs := #[.int .i64 t527, .int .i64 t528, .string (⟨#[]⟩ : ByteArray)]) ?_ 2 _ rfl; (with_reducible repeat (first | refine kN_ ?_ _ | refine kD_ ?_ | refine kA_ ?_ _)); refine kP_ (cs := #[.int .i64 t527, .int .i64 0, .string (⟨#[]⟩ : ByteArray)]) ?_ 1 _ rfl; (with_reducible repeat (first | refine kN_ ?_ _ | refine kD_ ?_ | refine kA_ ?_ _)); refine kP_ (cs := #[.int .i64 0, .int .i64 0, .string (⟨#[]⟩ : ByteArray)]) ?_ 0 _ rfl; (with_reducible repeat (first | refine kN_ ?_ _ | refine kD_ ?_ | refine kA_ ?_ _)); exact BK532.out) k_ hk)); (case aO => exact (by (with_reducible repeat (first | apply rA_ | apply rN_ | apply rD_)); exact Kd.R_mono (Kd.R_far (p := ⟨gb532, 2, none⟩) (Kd.R_far (p := ⟨gb532, 1, none⟩) (Kd.R_far (p := ⟨gb532, 0, none⟩) (Kd.R_mono HO_11.out (fun k_ hk => (⟨hk, hk.2⟩ : _ ∧ k_ ≠ gb532))) (fun _ hk => hk.2) (.int .i64 t527)) (fun _ hk => hk.2) (.int .i64 t528)) (fun _ hk => hk.2) (.string t529)) (fun _ hk => hk.1.2))); (case aS => exact (bS_ (by repeat (first | (with_reducible first | exact HB.out | apply bA_ | apply bN_ | apply bD_ | refine bE_ ?_ GE532.out) | exact HB.out)))); (case aL => have := LMc15.out; omega); intro v534 w19 ho hb hg hat; rw [← Ny533.out] at ho; have n0_ := aM_ (Kd.R_over' (by (with_reducible repeat (first | apply rA_ | apply rN_ | apply rD_)); exact (Kd.R_mono (Kd.R_far (p := ⟨gb532, 2, none⟩) (Kd.R_far (p := ⟨gb532, 1, none⟩) (Kd.R_far (p := ⟨gb532, 0, none⟩) (Kd.R_types HO_6.out BK532.out (by decide)) (fun _ hk => hk.2) (.int .i64 t527)) (fun _ hk => hk.2) (.int .i64 t528)) (fun _ hk => hk.2) (.string t529)) (fun _ h_ => h_.1))) (Kd.R_typed (by (with_reducible repeat (first | apply rA_ | apply rN_ | apply rD_)); exact (Kd.R_mono (Kd.R_far (p := ⟨gb532, 2, none⟩) (Kd.R_far (p := ⟨gb532, 1, none⟩) (Kd.R_far (p := ⟨gb532, 0, none⟩) (Kd.R_mono HO_11.out (fun k_ hk => (⟨hk, hk.2⟩ : _ ∧ k_ ≠ gb532))) (fun _ hk => hk.2) (.int .i64 t527)) (fun _ hk => hk.2) (.int .i64 t528)) (fun _ hk => hk.2) (.string t529)) (fun _ h_ => h_.1)))) (by decide) hg); have n1_ := aM_ (blk_grown (g := gb532) (o := .cells #[.int .i64 t527, .int .i64 t528, .string t529] 116 (0, 0)) (by (with_reducible repeat (first | refine kN_ ?_ _ | refine kD_ ?_ | refine kA_ ?_ _)); refine kP_ (cs := #[.int .i64 t527, .int .i64 t528, .string (⟨#[]⟩ : ByteArray)]) ?_ 2 _ rfl; (with_reducible repeat (first | refine kN_ ?_ _ | refine kD_ ?_ | refine kA_ ?_ _)); refine kP_ (cs := #[.int .i64 t527, .int .i64 0, .string (⟨#[]⟩ : ByteArray)]) ?_ 1 _ rfl; (with_reducible repeat (first | refine kN_ ?_ _ | refine kD_ ?_ | refine kA_ ?_ _)); refine kP_ (cs := #[.int .i64 0, .int .i64 0, .string (⟨#[]⟩ : ByteArray)]) ?_ 0 _ rfl; (with_reducible repeat (first | refine kN_ ?_ _ | refine kD_ ?_ | refine kA_ ?_ _)); exact BK532.out) hg (Kd.R_away HO_11.out (fun _ hk => hk.2))); have n2_ := aM_ (hb); have n3_ := aM_ (ho); clear HO_6; clear BK532; clear HB; clear HO_11; have HO_6 := n0_; have BK532 := n1_; have HB := n2_; have HO535 := n3_; clear n0_ n1_ n2_ n3_; clear ho hb hg hat))
         go_roundg k2
         case measure => have := HJ4.out; have := HK2.out; omega
         case rel => exact ⟨(t530), (y533), (wrap64 (x44_2 + 1)), (by first | rfl | (simp; done) | (simp [*]; done)), (by first | rfl | (simp; done) | (simp [*]; done)), H', ⟨by have := HJ4.out; have := HK2.out; omega⟩, ⟨by (with_reducible repeat (first | apply rA_ | apply rN_ | apply rD_)); exact HO_6.out⟩, ⟨by (with_reducible repeat (first | apply rA_ | apply rN_ | apply rD_)); exact Kd.R_mono HO535.out (fun _ hk => trivial)⟩, ⟨by repeat (first | (with_reducible first | exact HB.out | apply bA_ | apply bN_ | apply bD_ | refine bE_ ?_ GE532.out) | exact HB.out)⟩⟩
        ·rw [if_neg c15] at H
         exact absurd H (by simp)
       ·replace c14 := Bool.eq_false_iff.mpr c14
        subst c14
        have H1 : (some (([] : List (S116)), false)) = some (r1, r2) := by rw [if_neg (show ¬ (false = true) by decide)] at H; exact H
        clear H
        have H := H1
        clear H1
        simp only [Option.some.injEq, Prod.mk.injEq] at H
        obtain ⟨rfl, rfl⟩ := H
        go_wp2_with (first | ((with_reducible refine gate_callee (f := 115) rfl ?_); refine goesL_ (some 49) rfl rfl Try.func115 (by kernel_rfl) rfl #[.slice Ao7 t520.length co7, .int .i64 x9_2] rfl (by (try simp only [mA_, mC_, mN_]); first | done | rfl | (simp only [lD_, lT_]; rfl)) ?_; (with_reducible refine (impl_valueAt.calls k2 _ _ t520 x9_2 t527 t528 t529 t530 false _ ?side1 ?side2 A13.out).mono ?_); (case side1 => repeat (first | exact (Kd.R_reads' HO_6.out).2.2 | (with_reducible refine cA_ ?_ _) | (with_reducible refine cN_ ?_ _) | (with_reducible refine cD_ ?_))); (case side2 => exact (Kd.R_reads' HO_6.out).2.1); rintro e w20 ⟨rfl, hb⟩; refine ⟨_, rfl, ?_⟩; have n0_ := aM_ (Kd.R_below (by (with_reducible repeat (first | apply rA_ | apply rN_ | apply rD_)); exact HO_6.out) hb); have n1_ := aM_ (Kd.R_below (by (with_reducible repeat (first | apply rA_ | apply rN_ | apply rD_)); exact HO_11.out) hb); have n2_ := aM_ (bT_ (by repeat (first | (with_reducible first | exact HB.out | apply bA_ | apply bN_ | apply bD_) | exact HB.out)) hb); clear HO_6; clear HO_11; clear HB; have HO_6 := n0_; have HO_11 := n1_; have HB := n2_; clear n0_ n1_ n2_; (try clear hb); (try clear hb2); (try clear hk); (try clear hi)) | ((with_reducible refine gate_dst (N := 12) rfl ?_); (try (refine gate_guard (by rfl) ?_; dsimp only)); refine box_event ?hg (N := 12) ?hd (cs := #[.int .i64 0, .int .i64 0, .string (⟨#[]⟩ : ByteArray)]) (t := 116) ?hr ?_; (case hd => rfl); (case hg => rfl); (case hr => first | (go_simp; done) | (go_simp; rfl)); intro gb532 hg w21 hbox hb; have n0_ := aM_ (Kd.R_below (by (with_reducible repeat (first | apply rA_ | apply rN_ | apply rD_)); exact HO_6.out) hb); have n1_ := aM_ (Kd.R_below (Kd.R_elderB (by (with_reducible repeat (first | apply rA_ | apply rN_ | apply rD_)); exact HO_11.out) gb532 (Nat.le_of_eq hg.symm)) hb); have n2_ := aM_ (bT_ (by repeat (first | (with_reducible first | exact HB.out | apply bA_ | apply bN_ | apply bD_) | exact HB.out)) hb); have n3_ := aM_ (hbox); have n4_ := aM_ ((by rw [hg]; exact (bS_ (by repeat (first | (with_reducible first | exact HB.out | apply bA_ | apply bN_ | apply bD_) | exact HB.out))) : w.heap.size ≤ gb532)); have n5_ := aM_ ((by rw [hg]; exact (bS_ (by repeat (first | (with_reducible first | exact HB.out | apply bA_ | apply bN_ | apply bD_) | exact HB.out))) : w.heap.size ≤ gb532)); clear HO_6; clear HO_11; clear HB; have HO_6 := n0_; have HO_11 := n1_; have HB := n2_; have BK532 := n3_; have GW532 := n4_; have GE532 := n5_; clear n0_ n1_ n2_ n3_ n4_ n5_; clear hb hbox hg; have hcz22_0 : w21.cell? ⟨gb532, 0, none⟩ = some (.int .i64 0) := (kC_ BK532.out 0).trans rfl; have hcz22_1 : w21.cell? ⟨gb532, 1, none⟩ = some (.int .i64 0) := (kC_ BK532.out 1).trans rfl; have hcz22_2 : w21.cell? ⟨gb532, 2, none⟩ = some (.string (⟨#[]⟩ : ByteArray)) := (kC_ BK532.out 2).trans rfl; have hfz22_0 := kF_ BK532.out 0; have hfz22_1 := kF_ BK532.out 1; have hfz22_2 := kF_ BK532.out 2))
        go_ret2
        exact ⟨_, by first | rfl | (simp [errW_none, errW_some] <;> rfl) | (simp [*, errW_none, errW_some] <;> rfl), by first | exact Kd.R_nil _ _ _ _ _ | exact Kd.N_nil _ _ _ _ _ | exact Kd.V_nil _ _ _ _ _ | exact Kd.Q_nil _ _ _ _ _ | exact Kd.S_nil _ _ _ _ _, by repeat (first | (with_reducible first | exact HB.out | apply bA_ | apply bN_ | apply bD_ | refine bE_ ?_ GE532.out) | exact HB.out)⟩
      ·rw [if_neg c12] at H
       have c12b0 : decide (x44_2 < t524) = false := decide_eq_false c12
       clear c12
       replace H := oB_ H
       obtain ⟨t536, A230, H⟩ := H
       replace H : (if (t536.length : Int) = 0 then (some (([] : List (S116)), false)) else (if (strOfNums t536).toList = (strOfNums l1).toList then (some (x11_2, true)) else (some (([] : List (S116)), false)))) = some (r1, r2) := H
       have A23 := aM_ A230
       clear A230
       by_cases c24 : (t536.length : Int) = 0
       ·rw [if_pos c24] at H
        have c24b0 : ((t536.length : Int) == 0) = true := beq_iff_eq.mpr c24
        have c24b1 : ((t536.length : Int) != 0) = false := bne_eq_false_iff_eq.mpr c24
        clear c24
        simp only [Option.some.injEq, Prod.mk.injEq] at H
        obtain ⟨rfl, rfl⟩ := H
        obtain ⟨Ao25, co25, eo25⟩ := Kd.R_slice HO_11.out
        subst eo25
        go_wp2_with (first | ((with_reducible refine gate_callee (f := 39) rfl ?_); refine goesL_ (some 63) rfl rfl Try.func39 (by kernel_rfl) rfl #[.slice A0 l0.length c0, .slice Ao25 x11_2.length co25] rfl (by (try simp only [mA_, mC_, mN_]); first | done | rfl | (simp only [lD_, lT_]; rfl)) ?_; (with_reducible refine (impl_EncodeRow.calls k2 _ _ l0 _ _ x11_2 t536 _ ?side1 ?side2 ?side3 ?side4 A23.out).mono ?_); (case side1 => repeat (first | exact (Kd.C_below HR0.out HB.out) | (with_reducible refine cA_ ?_ _) | (with_reducible refine cN_ ?_ _) | (with_reducible refine cD_ ?_))); (case side2 => exact HC0.out); (case side3 => repeat (first | exact (Kd.R_reads' HO_11.out).2.2 | (with_reducible refine cA_ ?_ _) | (with_reducible refine cN_ ?_ _) | (with_reducible refine cD_ ?_))); (case side4 => exact (Kd.R_reads' HO_11.out).2.1); rintro e w26 ⟨v537, rfl, ho0, hb⟩; refine ⟨_, rfl, ?_⟩; have n0_ := aM_ (Kd.R_elder' (by (with_reducible repeat (first | apply rA_ | apply rN_ | apply rD_)); exact HO_6.out) (Kd.R_base ho0) hb); have n1_ := aM_ (Kd.R_below (by (with_reducible repeat (first | apply rA_ | apply rN_ | apply rD_)); exact HO_11.out) hb); have n2_ := aM_ (Kd.R_lower (Kd.R_new' ho0 (Kd.R_lt (by (with_reducible repeat (first | apply rA_ | apply rN_ | apply rD_)); exact HO_6.out))) (bS_ (by repeat (first | (with_reducible first | exact HB.out | apply bA_ | apply bN_ | apply bD_) | exact HB.out)))); have n3_ := aM_ (bT_ (by repeat (first | (with_reducible first | exact HB.out | apply bA_ | apply bN_ | apply bD_) | exact HB.out)) hb); clear HO_6; clear HO_11; clear HB; have HO_6 := n0_; have HO_11 := n1_; have HO538 := n2_; have HB := n3_; clear n0_ n1_ n2_ n3_; (try clear hb); (try clear hb2); (try clear hk); (try clear hi); (try clear ho0); obtain ⟨Ao27, co27, eo27⟩ := Kd.R_slice HO538.out; subst eo27))
        go_ret2
        exact ⟨_, by first | rfl | (simp [errW_none, errW_some] <;> rfl) | (simp [*, errW_none, errW_some] <;> rfl), by first | exact Kd.R_nil _ _ _ _ _ | exact Kd.N_nil _ _ _ _ _ | exact Kd.V_nil _ _ _ _ _ | exact Kd.Q_nil _ _ _ _ _ | exact Kd.S_nil _ _ _ _ _, by repeat (first | (with_reducible first | exact HB.out | apply bA_ | apply bN_ | apply bD_) | exact HB.out)⟩
       ·rw [if_neg c24] at H
        have c24b0 : ((t536.length : Int) == 0) = false := beq_eq_false_iff_ne.mpr c24
        have c24b1 : ((t536.length : Int) != 0) = true := bne_iff_ne.mpr c24
        have c24b2 : ¬ (t536 = []) := fun h_ => c24 (by rw [h_]; rfl)
        by_cases c28 : (strOfNums t536).toList = (strOfNums l1).toList
        ·rw [if_pos c28] at H
         have c28b0 : ((strOfNums t536).toList == (strOfNums l1).toList) = true := beq_iff_eq.mpr c28
         have c28b1 : ((strOfNums t536).toList != (strOfNums l1).toList) = false := bne_eq_false_iff_eq.mpr c28
         clear c28
         simp only [Option.some.injEq, Prod.mk.injEq] at H
         obtain ⟨rfl, rfl⟩ := H
         obtain ⟨Ao29, co29, eo29⟩ := Kd.R_slice HO_11.out
         subst eo29
         go_wp2_with (first | ((with_reducible refine gate_callee (f := 39) rfl ?_); refine goesL_ (some 63) rfl rfl Try.func39 (by kernel_rfl) rfl #[.slice A0 l0.length c0, .slice Ao29 x11_2.length co29] rfl (by (try simp only [mA_, mC_, mN_]); first | done | rfl | (simp only [lD_, lT_]; rfl)) ?_; (with_reducible refine (impl_EncodeRow.calls k2 _ _ l0 _ _ x11_2 t536 _ ?side1 ?side2 ?side3 ?side4 A23.out).mono ?_); (case side1 => repeat (first | exact (Kd.C_below HR0.out HB.out) | (with_reducible refine cA_ ?_ _) | (with_reducible refine cN_ ?_ _) | (with_reducible refine cD_ ?_))); (case side2 => exact HC0.out); (case side3 => repeat (first | exact (Kd.R_reads' HO_11.out).2.2 | (with_reducible refine cA_ ?_ _) | (with_reducible refine cN_ ?_ _) | (with_reducible refine cD_ ?_))); (case side4 => exact (Kd.R_reads' HO_11.out).2.1); rintro e w30 ⟨v537, rfl, ho0, hb⟩; refine ⟨_, rfl, ?_⟩; have n0_ := aM_ (Kd.R_elder' (by (with_reducible repeat (first | apply rA_ | apply rN_ | apply rD_)); exact HO_6.out) (Kd.R_base ho0) hb); have n1_ := aM_ (Kd.R_below (by (with_reducible repeat (first | apply rA_ | apply rN_ | apply rD_)); exact HO_11.out) hb); have n2_ := aM_ (Kd.R_lower (Kd.R_new' ho0 (Kd.R_lt (by (with_reducible repeat (first | apply rA_ | apply rN_ | apply rD_)); exact HO_6.out))) (bS_ (by repeat (first | (with_reducible first | exact HB.out | apply bA_ | apply bN_ | apply bD_) | exact HB.out)))); have n3_ := aM_ (bT_ (by repeat (first | (with_reducible first | exact HB.out | apply bA_ | apply bN_ | apply bD_) | exact HB.out)) hb); clear HO_6; clear HO_11; clear HB; have HO_6 := n0_; have HO_11 := n1_; have HO538 := n2_; have HB := n3_; clear n0_ n1_ n2_ n3_; (try clear hb); (try clear hb2); (try clear hk); (try clear hi); (try clear ho0); obtain ⟨Ao31, co31, eo31⟩ := Kd.R_slice HO538.out; subst eo31; have hcv32 := own_string (P := Try.prog) Try.underlying27 Try.underlying5 Try.underlying9 (Kd.own_of_R HO538.out); have hcv33 := Kd.C_string (P := Try.prog) (A := A1) (c := c1) Try.underlying27 Try.underlying5 Try.underlying9 (Kd.C_below HR1.out HB.out); have hcw539 := fun (n_ : Nat) => Kd.C_string (P := Try.prog) (A := A1) (c := c1) Try.underlying27 Try.underlying5 Try.underlying9 (cN_ ((Kd.C_below HR1.out HB.out)) n_)))
         go_ret2
         exact ⟨_, by first | rfl | (simp [errW_none, errW_some] <;> rfl) | (simp [*, errW_none, errW_some] <;> rfl), by (with_reducible repeat (first | apply rA_ | apply rN_ | apply rD_)); exact HO_11.out, by repeat (first | (with_reducible first | exact HB.out | apply bA_ | apply bN_ | apply bD_) | exact HB.out)⟩
        ·rw [if_neg c28] at H
         have c28b0 : ((strOfNums t536).toList == (strOfNums l1).toList) = false := beq_eq_false_iff_ne.mpr c28
         have c28b1 : ((strOfNums t536).toList != (strOfNums l1).toList) = true := bne_iff_ne.mpr c28
         simp only [Option.some.injEq, Prod.mk.injEq] at H
         obtain ⟨rfl, rfl⟩ := H
         obtain ⟨Ao34, co34, eo34⟩ := Kd.R_slice HO_11.out
         subst eo34
         go_wp2_with (first | ((with_reducible refine gate_callee (f := 39) rfl ?_); refine goesL_ (some 63) rfl rfl Try.func39 (by kernel_rfl) rfl #[.slice A0 l0.length c0, .slice Ao34 x11_2.length co34] rfl (by (try simp only [mA_, mC_, mN_]); first | done | rfl | (simp only [lD_, lT_]; rfl)) ?_; (with_reducible refine (impl_EncodeRow.calls k2 _ _ l0 _ _ x11_2 t536 _ ?side1 ?side2 ?side3 ?side4 A23.out).mono ?_); (case side1 => repeat (first | exact (Kd.C_below HR0.out HB.out) | (with_reducible refine cA_ ?_ _) | (with_reducible refine cN_ ?_ _) | (with_reducible refine cD_ ?_))); (case side2 => exact HC0.out); (case side3 => repeat (first | exact (Kd.R_reads' HO_11.out).2.2 | (with_reducible refine cA_ ?_ _) | (with_reducible refine cN_ ?_ _) | (with_reducible refine cD_ ?_))); (case side4 => exact (Kd.R_reads' HO_11.out).2.1); rintro e w35 ⟨v537, rfl, ho0, hb⟩; refine ⟨_, rfl, ?_⟩; have n0_ := aM_ (Kd.R_elder' (by (with_reducible repeat (first | apply rA_ | apply rN_ | apply rD_)); exact HO_6.out) (Kd.R_base ho0) hb); have n1_ := aM_ (Kd.R_below (by (with_reducible repeat (first | apply rA_ | apply rN_ | apply rD_)); exact HO_11.out) hb); have n2_ := aM_ (Kd.R_lower (Kd.R_new' ho0 (Kd.R_lt (by (with_reducible repeat (first | apply rA_ | apply rN_ | apply rD_)); exact HO_6.out))) (bS_ (by repeat (first | (with_reducible first | exact HB.out | apply bA_ | apply bN_ | apply bD_) | exact HB.out)))); have n3_ := aM_ (bT_ (by repeat (first | (with_reducible first | exact HB.out | apply bA_ | apply bN_ | apply bD_) | exact HB.out)) hb); clear HO_6; clear HO_11; clear HB; have HO_6 := n0_; have HO_11 := n1_; have HO538 := n2_; have HB := n3_; clear n0_ n1_ n2_ n3_; (try clear hb); (try clear hb2); (try clear hk); (try clear hi); (try clear ho0); obtain ⟨Ao36, co36, eo36⟩ := Kd.R_slice HO538.out; subst eo36; have hcv37 := own_string (P := Try.prog) Try.underlying27 Try.underlying5 Try.underlying9 (Kd.own_of_R HO538.out); have hcv38 := Kd.C_string (P := Try.prog) (A := A1) (c := c1) Try.underlying27 Try.underlying5 Try.underlying9 (Kd.C_below HR1.out HB.out); have hcw540 := fun (n_ : Nat) => Kd.C_string (P := Try.prog) (A := A1) (c := c1) Try.underlying27 Try.underlying5 Try.underlying9 (cN_ ((Kd.C_below HR1.out HB.out)) n_)))
         go_ret2
         exact ⟨_, by first | rfl | (simp [errW_none, errW_some] <;> rfl) | (simp [*, errW_none, errW_some] <;> rfl), by first | exact Kd.R_nil _ _ _ _ _ | exact Kd.N_nil _ _ _ _ _ | exact Kd.V_nil _ _ _ _ _ | exact Kd.Q_nil _ _ _ _ _ | exact Kd.S_nil _ _ _ _ _, by repeat (first | (with_reducible first | exact HB.out | apply bA_ | apply bN_ | apply bD_) | exact HB.out)⟩

/-! ### laws_at: function 48 -/
def laws_at.f (l0 : List Int) (a1 : Int) : Option (Int) := if a1 < (l0.length : Int) then (if 0 ≤ a1 then (some (wrap64 (rd l0 a1))) else (none)) else (some (Int.tmod (wrap64 ((wrap64 (a1 * 31)) + (wrap64 ((l0.length : Int) * 7)))) 256))
set_option maxHeartbeats 8000000 in
set_option maxRecDepth 100000 in
theorem laws_at.calls (A0 : Option Addr) (c0 : Nat) (l0 : List Int) (a1 : Int) (r : Int) (w : World) (hr0 : Kd.C (Kd.int .u8) w A0 l0.length l0) (hc0 : l0.length ≤ c0) (h : laws_at.f l0 a1 = some r) :
  Calls Try.prog 48 #[.slice A0 l0.length c0, .int .i64 a1] w fun e w' => e = .returned (.int .i64 r) ∧ Drawn0 w w' := by
 have HR0 := aM_ hr0
 have HC0 := aM_ hc0
 clear hr0 hc0
 have H : (if a1 < (l0.length : Int) then (if 0 ≤ a1 then (some (wrap64 (rd l0 a1))) else (none)) else (some (Int.tmod (wrap64 ((wrap64 (a1 * 31)) + (wrap64 ((l0.length : Int) * 7)))) 256))) = some r := h
 clear h
 by_cases c3 : a1 < (l0.length : Int)
 ·rw [if_pos c3] at H
  have c3b0 : decide (a1 < (l0.length : Int)) = true := decide_eq_true c3
  clear c3
  by_cases c4 : 0 ≤ a1
  ·rw [if_pos c4] at H
   have c4b0 : decide (0 ≤ a1) = true := decide_eq_true c4
   clear c4
   obtain rfl := Option.some.inj H
   have p541 : 0 ≤ (a1 : Int) := oT_ (by first | (with_reducible assumption) | assumption)
   have q541 : a1 < (l0.length : Int) := oT_ (by first | (with_reducible assumption) | assumption)
   obtain ⟨ad541, e541, hx541_0⟩ := Kd.at_int HR0.out a1 p541 q541
   cases e541
   replace p541 := eq_true p541
   replace q541 := eq_true q541
   go_enter Try.func48, Try.ntmps48
   go_wp2
   go_ret
   exact ⟨by first | rfl | (simp; done) | (simp [*]; done), by repeat (first | exact Drawn0.refl _ | apply Drawn0.step)⟩
  ·rw [if_neg c4] at H
   exact absurd H (by simp)
 ·rw [if_neg c3] at H
  have c3b0 : decide (a1 < (l0.length : Int)) = false := decide_eq_false c3
  clear c3
  obtain rfl := Option.some.inj H
  go_enter Try.func48, Try.ntmps48
  go_wp2
  go_ret
  exact ⟨by first | rfl | (simp; done) | (simp [*]; done), by repeat (first | exact Drawn0.refl _ | apply Drawn0.step)⟩

/-! ### impl_SameRow: function 49 -/
def impl_SameRow.l0 : Nat → List (S116) → List (S116) → Int → Int → Option (Bool)
 | 0, _, _, _, _ => none
 | k + 1, x0, x1, x12, x13 => if x13 < x12 then (if 0 ≤ x13 then (if x13 < (x0.length : Int) then (if x13 < (x1.length : Int) then (if (!(((rd_T116 x0 x13).f0) == ((rd_T116 x1 x13).f0)) || (!(((rd_T116 x0 x13).f1) == ((rd_T116 x1 x13).f1)) || (!((((rd_T116 x0 x13).f2).toList) == (((rd_T116 x1 x13).f2).toList))))) = true then (some false) else (impl_SameRow.l0 k x0 x1 x12 (wrap64 (x13 + 1)))) else (none)) else (none)) else (none)) else (some true)
def impl_SameRow.f (k : Nat) (l0 : List (S116)) (l1 : List (S116)) : Option (Bool) := if (l0.length : Int) = (l1.length : Int) then (impl_SameRow.l0 k l0 l1 (l0.length : Int) 0) else (some false)
theorem impl_SameRow.mono_l : ∀ k, (∀ y0 y1 y2 y3, LeO (impl_SameRow.l0 k y0 y1 y2 y3) (impl_SameRow.l0 (k + 1) y0 y1 y2 y3))
 | 0 => fun _ _ _ _ r h => by simp [impl_SameRow.l0] at h
 | k + 1 => by
  have ih0 := impl_SameRow.mono_l k
  ·intro y0 y1 y2 y3
   unfold impl_SameRow.l0
   repeat' first
   | (with_reducible exact ih0 _ _ _ _)
   | (with_reducible exact LeO.refl _)
   | (with_reducible exact LeO.none _)
   | (with_reducible refine LeO.ite ?_ ?_)
   | (with_reducible refine LeO.bind ?_ (fun _ => ?_))
   | exact ih0 _ _ _ _
   | exact LeO.none _
   | refine LeO.ite ?_ ?_
   | refine LeO.bind ?_ (fun _ => ?_)
theorem impl_SameRow.mono : ∀ a0 a1 k, LeO (impl_SameRow.f k a0 a1) (impl_SameRow.f (k + 1) a0 a1) := by
 intro a0 a1 k
 have ih0 := impl_SameRow.mono_l k
 unfold impl_SameRow.f
 repeat' first
   | (with_reducible exact ih0 _ _ _ _)
   | (with_reducible exact LeO.refl _)
   | (with_reducible exact LeO.none _)
   | (with_reducible refine LeO.ite ?_ ?_)
   | (with_reducible refine LeO.bind ?_ (fun _ => ?_))
   | exact ih0 _ _ _ _
   | exact LeO.none _
   | refine LeO.ite ?_ ?_
   | refine LeO.bind ?_ (fun _ => ?_)
set_option maxHeartbeats 8000000 in
set_option maxRecDepth 100000 in
theorem impl_SameRow.calls (k : Nat) (A0 : Option Addr) (c0 : Nat) (l0 : List (S116)) (A1 : Option Addr) (c1 : Nat) (l1 : List (S116)) (r : Bool) (w : World) (hr0 : Kd.C k116 w A0 l0.length l0) (hc0 : l0.length ≤ c0) (hr1 : Kd.C k116 w A1 l1.length l1) (hc1 : l1.length ≤ c1) (h : impl_SameRow.f k l0 l1 = some r) :
  Calls Try.prog 49 #[.slice A0 l0.length c0, .slice A1 l1.length c1] w fun e w' => e = .returned (.bool r) ∧ Drawn0 w w' := by
 have hu116 := Try.underlying116
 have HR0 := aM_ hr0
 have HC0 := aM_ hc0
 clear hr0 hc0
 have HR1 := aM_ hr1
 have HC1 := aM_ hc1
 clear hr1 hc1
 have H : (if (l0.length : Int) = (l1.length : Int) then (impl_SameRow.l0 k l0 l1 (l0.length : Int) 0) else (some false)) = some r := h
 clear h
 by_cases c3 : (l0.length : Int) = (l1.length : Int)
 ·rw [if_pos c3] at H
  have c3b0 : ((l0.length : Int) == (l1.length : Int)) = true := beq_iff_eq.mpr c3
  have c3b1 : ((l0.length : Int) != (l1.length : Int)) = false := bne_eq_false_iff_eq.mpr c3
  have c3b2 : (l0.length == l1.length) = true := by first | simpa using c3 | (simp at c3 ⊢; omega)
  clear c3
  have H' := aM_ H
  clear H
  go_enter Try.func49, Try.ntmps49
  go_wp2
  repeat (go_quiet (fail); try go_wp2)
  (try simp only [Act.put, sI_, sS_, sZ_])
  go_loopg [13] k (fun kq v13 w' => ∃ (x13_1 : Int), v13 = .int .i64 x13_1 ∧ Aside0 (impl_SameRow.l0 kq l0 l1 (l0.length : Int) x13_1 = some r) ∧ Aside0 (kq ≤ k) ∧ Drawn0 w w')
  case atStart => exact ⟨(0), (by first | rfl | (simp; done) | (simp [*]; done)), H', ⟨Nat.le_refl _⟩, by repeat (first | exact Drawn0.refl _ | apply Drawn0.step)⟩
  case round =>
   clear H'
   try clear c1
   try clear p2
   try clear c3
   try clear c3b0
   try clear c3b1
   try clear c3b2
   obtain ⟨x13_1, rfl, HA, HK1, ⟨m1, rfl⟩⟩ := hrel
   cases gk with
   | zero => exact absurd HA.out (by simp [impl_SameRow.l0])
   | succ k1 =>
    have H := HA.out
    clear HA
    simp only [impl_SameRow.l0] at H
    by_cases c4 : x13_1 < (l0.length : Int)
    ·rw [if_pos c4] at H
     have c4b0 : decide (x13_1 < (l0.length : Int)) = true := decide_eq_true c4
     clear c4
     by_cases c5 : 0 ≤ x13_1
     ·rw [if_pos c5] at H
      have c5b0 : decide (0 ≤ x13_1) = true := decide_eq_true c5
      clear c5
      by_cases c6 : x13_1 < (l0.length : Int)
      ·rw [if_pos c6] at H
       have c6b0 : decide (x13_1 < (l0.length : Int)) = true := decide_eq_true c6
       clear c6
       by_cases c7 : x13_1 < (l1.length : Int)
       ·rw [if_pos c7] at H
        have c7b0 : decide (x13_1 < (l1.length : Int)) = true := decide_eq_true c7
        clear c7
        by_cases c8 : (!(((rd_T116 l0 x13_1).f0) == ((rd_T116 l1 x13_1).f0)) || (!(((rd_T116 l0 x13_1).f1) == ((rd_T116 l1 x13_1).f1)) || (!((((rd_T116 l0 x13_1).f2).toList) == (((rd_T116 l1 x13_1).f2).toList))))) = true
        ·rw [if_pos c8] at H
         have c8b0 : (!(((rd_T116 l0 x13_1).f0) == ((rd_T116 l1 x13_1).f0)) || (!(((rd_T116 l0 x13_1).f1) == ((rd_T116 l1 x13_1).f1)) || (!((((rd_T116 l0 x13_1).f2).toList) == (((rd_T116 l1 x13_1).f2).toList))))) = true := c8
         clear c8
         obtain rfl := Option.some.inj H
         have p542 : 0 ≤ (x13_1 : Int) := oT_ (by first | (with_reducible assumption) | assumption)
         have q542 : x13_1 < (l0.length : Int) := oT_ (by first | (with_reducible assumption) | assumption)
         obtain ⟨ad542, e542, hx542_0, hx542_1, hx542_2⟩ := at_T116 HR0.out x13_1 p542 q542
         cases e542
         replace p542 := eq_true p542
         replace q542 := eq_true q542
         have p543 : 0 ≤ (x13_1 : Int) := oT_ (by first | (with_reducible assumption) | assumption)
         have q543 : x13_1 < (l1.length : Int) := oT_ (by first | (with_reducible assumption) | assumption)
         obtain ⟨ad543, e543, hx543_0, hx543_1, hx543_2⟩ := at_T116 HR1.out x13_1 p543 q543
         cases e543
         replace p543 := eq_true p543
         replace q543 := eq_true q543
         go_wp2
         repeat (go_quiet (fail); try go_wp2)
         go_ret
         exact ⟨by first | rfl | (simp; done) | (simp [*]; done), by repeat (first | exact Drawn0.refl _ | apply Drawn0.step)⟩
        ·rw [if_neg c8] at H
         have c8b0 : (!(((rd_T116 l0 x13_1).f0) == ((rd_T116 l1 x13_1).f0)) || (!(((rd_T116 l0 x13_1).f1) == ((rd_T116 l1 x13_1).f1)) || (!((((rd_T116 l0 x13_1).f2).toList) == (((rd_T116 l1 x13_1).f2).toList))))) = false := by simpa using c8
         clear c8
         have H' := aM_ H
         clear H
         have p542 : 0 ≤ (x13_1 : Int) := oT_ (by first | (with_reducible assumption) | assumption)
         have q542 : x13_1 < (l0.length : Int) := oT_ (by first | (with_reducible assumption) | assumption)
         obtain ⟨ad542, e542, hx542_0, hx542_1, hx542_2⟩ := at_T116 HR0.out x13_1 p542 q542
         cases e542
         replace p542 := eq_true p542
         replace q542 := eq_true q542
         have p543 : 0 ≤ (x13_1 : Int) := oT_ (by first | (with_reducible assumption) | assumption)
         have q543 : x13_1 < (l1.length : Int) := oT_ (by first | (with_reducible assumption) | assumption)
         obtain ⟨ad543, e543, hx543_0, hx543_1, hx543_2⟩ := at_T116 HR1.out x13_1 p543 q543
         cases e543
         replace p543 := eq_true p543
         replace q543 := eq_true q543
         go_wp2
         repeat (go_quiet (fail); try go_wp2)
         go_roundg k1
         case measure => have := HK1.out; omega
         case rel => exact ⟨(wrap64 (x13_1 + 1)), (by first | rfl | (simp; done) | (simp [*]; done)), H', ⟨by have := HK1.out; omega⟩, by repeat (first | exact Drawn0.refl _ | apply Drawn0.step)⟩
       ·rw [if_neg c7] at H
        exact absurd H (by simp)
      ·rw [if_neg c6] at H
       exact absurd H (by simp)
     ·rw [if_neg c5] at H
      exact absurd H (by simp)
    ·rw [if_neg c4] at H
     have c4b0 : decide (x13_1 < (l0.length : Int)) = false := decide_eq_false c4
     clear c4
     obtain rfl := Option.some.inj H
     go_wp2
     repeat (go_quiet (fail); try go_wp2)
     go_ret
     exact ⟨by first | rfl | (simp; done) | (simp [*]; done), by repeat (first | exact Drawn0.refl _ | apply Drawn0.step)⟩
 ·rw [if_neg c3] at H
  have c3b0 : ((l0.length : Int) == (l1.length : Int)) = false := beq_eq_false_iff_ne.mpr c3
  have c3b1 : ((l0.length : Int) != (l1.length : Int)) = true := bne_iff_ne.mpr c3
  have c3b2 : (l0.length == l1.length) = false := by first | simpa using c3 | (simp at c3 ⊢; omega)
  obtain rfl := Option.some.inj H
  go_enter Try.func49, Try.ntmps49
  go_wp2
  repeat (go_quiet (fail); try go_wp2)
  go_ret
  exact ⟨by first | rfl | (simp; done) | (simp [*]; done), by repeat (first | exact Drawn0.refl _ | apply Drawn0.step)⟩

end Go.Proofs.Ytllgmgpfdnofmaa.PFnRowBytes
