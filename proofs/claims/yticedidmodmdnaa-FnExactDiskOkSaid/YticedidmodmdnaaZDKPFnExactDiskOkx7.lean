-- Written by a program of this session, which builds on the kit's print
import Derived.Test.YticedidmodmdnaaZDKPFnExactDiskOkx0
import Derived.Test.YticedidmodmdnaaZDKPFnExactDiskOkx1
import Derived.Test.YticedidmodmdnaaZDKPFnExactDiskOkx3
import Derived.Test.YticedidmodmdnaaZDKPFnExactDiskOkx4
import Derived.Test.YticedidmodmdnaaZDKPFnExactDiskOkx5
import Derived.Test.YticedidmodmdnaaZDKPFnExactDiskOkx6
namespace Go.Proofs.Yticedidmodmdnaa.PFnExactDiskOk
open Go.RowKit Go.Proofs.YticedidmodmdnaaW.PrintWords Go.Proofs.YticedidmodmdnaaW.PrintLast Go.Proofs.YticedidmodmdnaaW.PrintMore Go.Proofs.Yticedidmodmdnaa.Xtra
attribute [local go_sem] max2_int min2_int max_two min_two max_three min_three max_four min_four str_leq str_gtr str_geq setCell_drewN cell_set2 cell_set3   -- for this text's walks alone
set_option linter.unusedVariables false
set_option linter.unusedSimpArgs false

/-! ### laws_eqWriteS: function 64 -/
def laws_eqWriteS.l0 : Nat → List (S58) → List (S58) → Int → Option (Bool)
 | 0, _, _, _ => none
 | k + 1, x0, x1, x5 => if x5 < (x0.length : Int) then (if 0 ≤ x5 then (if x5 < (x1.length : Int) then ((laws_eqWrite.f k ((rd_T58 x0 x5).f0) ((rd_T58 x0 x5).f1) ((rd_T58 x1 x5).f0) ((rd_T58 x1 x5).f1)).bind fun t206 => (if t206 = true then (laws_eqWriteS.l0 k x0 x1 (wrap64 (x5 + 1))) else (some false))) else (none)) else (none)) else (some true)
def laws_eqWriteS.f (k : Nat) (l0 : List (S58)) (l1 : List (S58)) : Option (Bool) := if (l0.length : Int) = (l1.length : Int) then (laws_eqWriteS.l0 k l0 l1 0) else (some false)
theorem laws_eqWriteS.mono_l : ∀ k, (∀ y0 y1 y2, LeO (laws_eqWriteS.l0 k y0 y1 y2) (laws_eqWriteS.l0 (k + 1) y0 y1 y2))
 | 0 => fun _ _ _ r h => by simp [laws_eqWriteS.l0] at h
 | k + 1 => by
  have ih0 := laws_eqWriteS.mono_l k
  ·intro y0 y1 y2
   unfold laws_eqWriteS.l0
   repeat' first
   | (with_reducible exact ih0 _ _ _)
   | (with_reducible exact laws_eqWrite.mono _ _ _ _ _)
   | (with_reducible exact LeO.refl _)
   | (with_reducible exact LeO.none _)
   | (with_reducible refine LeO.ite ?_ ?_)
   | (with_reducible refine LeO.bind ?_ (fun _ => ?_))
   | exact ih0 _ _ _
   | exact laws_eqWrite.mono _ _ _ _ _
   | exact LeO.none _
   | refine LeO.ite ?_ ?_
   | refine LeO.bind ?_ (fun _ => ?_)
theorem laws_eqWriteS.mono : ∀ a0 a1 k, LeO (laws_eqWriteS.f k a0 a1) (laws_eqWriteS.f (k + 1) a0 a1) := by
 intro a0 a1 k
 have ih0 := laws_eqWriteS.mono_l k
 unfold laws_eqWriteS.f
 repeat' first
   | (with_reducible exact ih0 _ _ _)
   | (with_reducible exact laws_eqWrite.mono _ _ _ _ _)
   | (with_reducible exact LeO.refl _)
   | (with_reducible exact LeO.none _)
   | (with_reducible refine LeO.ite ?_ ?_)
   | (with_reducible refine LeO.bind ?_ (fun _ => ?_))
   | exact ih0 _ _ _
   | exact laws_eqWrite.mono _ _ _ _ _
   | exact LeO.none _
   | refine LeO.ite ?_ ?_
   | refine LeO.bind ?_ (fun _ => ?_)
def laws_eqWriteS.T6 : Bool × List (List Nat × List Nat) := (true, [([], []), ([], []), ([0, 1], [0, 1]), ([2], [2]), ([], []), ([], []), ([4, 5], [4, 5]), ([6], [6]), ([3, 7], [3, 7]), ([8], [8])])
def laws_eqWriteS.B6 : List Nat := [0, 0, 3, 7, 0, 0, 48, 112, 255, 511]
theorem laws_eqWriteS.tab6 : rtab .any (opsOf Try.f64 6) = laws_eqWriteS.T6 := by kernel_rfl
theorem laws_eqWriteS.bits6 : waitsOk laws_eqWriteS.T6.2 laws_eqWriteS.B6 = true := by kernel_rfl
set_option maxHeartbeats 8000000 in
set_option maxRecDepth 100000 in
theorem laws_eqWriteS.calls (k : Nat) (A0 : Option Addr) (c0 : Nat) (l0 : List (S58)) (A1 : Option Addr) (c1 : Nat) (l1 : List (S58)) (r : Bool) (w : World) (hr0 : Kd.C k58 w A0 l0.length l0) (hc0 : l0.length ≤ c0) (hr1 : Kd.C k58 w A1 l1.length l1) (hc1 : l1.length ≤ c1) (h : laws_eqWriteS.f k l0 l1 = some r) :
  Calls Try.prog 64 #[.slice A0 l0.length c0, .slice A1 l1.length c1] w fun e w' => e = .returned (.bool r) ∧ Below w.heap.size w w' := by
 have hu58 := Try.underlying58
 have HR0 := aM_ hr0
 have HC0 := aM_ hc0
 clear hr0 hc0
 have HR1 := aM_ hr1
 have HC1 := aM_ hc1
 clear hr1 hc1
 have HB := aM_ (Below.refl w.heap.size w)
 have H : (if (l0.length : Int) = (l1.length : Int) then (laws_eqWriteS.l0 k l0 l1 0) else (some false)) = some r := h
 clear h
 by_cases c3 : (l0.length : Int) = (l1.length : Int)
 ·rw [if_pos c3] at H
  have c3b0 : ((l0.length : Int) == (l1.length : Int)) = true := beq_iff_eq.mpr c3
  have c3b1 : ((l0.length : Int) != (l1.length : Int)) = false := bne_eq_false_iff_eq.mpr c3
  have c3b2 : (l0.length == l1.length) = true := by first | simpa using c3 | (simp at c3 ⊢; omega)
  clear c3
  have H' := aM_ H
  clear H
  go_enter Try.func64, Try.ntmps64
  go_wp2
  (try simp only [Act.put, sI_, sS_, sZ_])
  go_loopg [5] k (fun kq v5 w' => ∃ (x5_1 : Int), v5 = .int .i64 x5_1 ∧ Aside0 (laws_eqWriteS.l0 kq l0 l1 x5_1 = some r) ∧ Aside0 (kq ≤ k) ∧ Aside0 (Below w.heap.size w w'))
  case atStart => exact ⟨(0), (by first | rfl | (simp; done) | (simp [*]; done)), H', ⟨Nat.le_refl _⟩, ⟨by repeat (first | (with_reducible first | exact HB.out | apply bA_ | apply bN_ | apply bD_) | exact HB.out)⟩⟩
  case round =>
   clear H'
   try clear c1
   try clear p2
   try clear c3
   try clear c3b0
   try clear c3b1
   try clear c3b2
   obtain ⟨x5_1, rfl, HA, HK1, HB⟩ := hrel
   cases gk with
   | zero => exact absurd HA.out (by simp [laws_eqWriteS.l0])
   | succ k1 =>
    have H := HA.out
    clear HA
    simp only [laws_eqWriteS.l0] at H
    by_cases c4 : x5_1 < (l0.length : Int)
    ·rw [if_pos c4] at H
     have c4b0 : decide (x5_1 < (l0.length : Int)) = true := decide_eq_true c4
     clear c4
     by_cases c5 : 0 ≤ x5_1
     ·rw [if_pos c5] at H
      have c5b0 : decide (0 ≤ x5_1) = true := decide_eq_true c5
      clear c5
      by_cases c6 : x5_1 < (l1.length : Int)
      ·rw [if_pos c6] at H
       have c6b0 : decide (x5_1 < (l1.length : Int)) = true := decide_eq_true c6
       clear c6
       replace H := oB_ H
       obtain ⟨t206, A70, H⟩ := H
       replace H : (if t206 = true then (laws_eqWriteS.l0 k1 l0 l1 (wrap64 (x5_1 + 1))) else (some false)) = some r := H
       have A7 := aM_ A70
       clear A70
       by_cases c8 : t206 = true
       ·subst c8
        have H1 : (laws_eqWriteS.l0 k1 l0 l1 (wrap64 (x5_1 + 1))) = some r := by rw [if_pos rfl] at H; exact H
        clear H
        have H := H1
        clear H1
        have H' := aM_ H
        clear H
        try go_wp2
        have n0_ := aM_ (bD_ HB.out)
        clear HB
        have HB := n0_
        clear n0_
        have p204 : 0 ≤ (x5_1 : Int) := oT_ (by first | (with_reducible assumption) | assumption)
        have q204 : x5_1 < (l0.length : Int) := oT_ (by first | (with_reducible assumption) | assumption)
        obtain ⟨ad204, A204_1, c204_1, e204, hx204_0, hx204_1, hl204_1, hi204_1⟩ := at_T58 HR0.out x5_1 p204 q204
        have hw204_1 := hx204_1
        have hw204_0 := hx204_0
        cases e204
        replace hx204_0 := (HB.out.cell (wL_ w _ hx204_0)).trans hx204_0
        replace hx204_1 := (HB.out.cell (wL_ w _ hx204_1)).trans hx204_1
        have HR204_1 := aM_ hi204_1
        have HC204_1 := aM_ hl204_1
        clear hi204_1 hl204_1
        replace p204 := eq_true p204
        replace q204 := eq_true q204
        have p205 : 0 ≤ (x5_1 : Int) := oT_ (by first | (with_reducible assumption) | assumption)
        have q205 : x5_1 < (l1.length : Int) := oT_ (by first | (with_reducible assumption) | assumption)
        obtain ⟨ad205, A205_1, c205_1, e205, hx205_0, hx205_1, hl205_1, hi205_1⟩ := at_T58 HR1.out x5_1 p205 q205
        have hw205_1 := hx205_1
        have hw205_0 := hx205_0
        cases e205
        replace hx205_0 := (HB.out.cell (wL_ w _ hx205_0)).trans hx205_0
        replace hx205_1 := (HB.out.cell (wL_ w _ hx205_1)).trans hx205_1
        have HR205_1 := aM_ hi205_1
        have HC205_1 := aM_ hl205_1
        clear hi205_1 hl205_1
        replace p205 := eq_true p205
        replace q205 := eq_true q205
        refine start_ (n := 10) (S := fun w' => w'.cell? (ad204.add ((x5_1).toNat * 2)) = some (.int .i64 ((rd_T58 l0 x5_1).f0)) ∧ w'.cell? ⟨(ad204.add ((x5_1).toNat * 2)).block, (ad204.add ((x5_1).toNat * 2)).off + 1, none⟩ = some (.slice A204_1 ((rd_T58 l0 x5_1).f1).length c204_1) ∧ w'.cell? (ad205.add ((x5_1).toNat * 2)) = some (.int .i64 ((rd_T58 l1 x5_1).f0)) ∧ w'.cell? ⟨(ad205.add ((x5_1).toNat * 2)).block, (ad205.add ((x5_1).toNat * 2)).off + 1, none⟩ = some (.slice A205_1 ((rd_T58 l1 x5_1).f1).length c205_1)) (ds := []) #[false, false, false, false, false, false, false, false, false, false] (by kernel_rfl) rfl rfl ⟨((HB.out.cell (wL_ w _ hw204_0)).trans hw204_0), ((HB.out.cell (wL_ w _ hw204_1)).trans hw204_1), ((HB.out.cell (wL_ w _ hw205_0)).trans hw205_0), ((HB.out.cell (wL_ w _ hw205_1)).trans hw205_1)⟩ (fun hHeld => ?_); refine with_tabW laws_eqWriteS.tab6 laws_eqWriteS.bits6 (fun HT_ HW_ => ?_)
        generalize wr.drew = w9 at HB HR204_1 HR205_1 hx204_0 hx204_1 hx205_0 hx205_1 hHeld ⊢
        refine pure_ (i := 0) (N := some 17) (v := ?_) (a' := ?_) #[true, false, false, false, false, false, false, false, false, false] rfl rfl (any_of HT_.out (by kernel_rfl)) (fun _ _ _ h => h) (Or.inl ⟨by rfl, ?_⟩) ?_ ?_
        rotate_left
        ·intro w'
         go_simp
         with_reducible rfl
        rotate_left
        ·simp only [Act.put, sI_, sZ_, sS_, i64_w, i32_w]
         rfl
        refine pure_ (i := 1) (N := some 18) (v := ?_) (a' := ?_) #[true, true, false, false, false, false, false, false, false, false] rfl rfl (any_of HT_.out (by kernel_rfl)) (fun _ _ _ h => h) (Or.inl ⟨by rfl, ?_⟩) ?_ ?_
        rotate_left
        ·intro w'
         go_simp
         with_reducible rfl
        rotate_left
        ·simp only [Act.put, sI_, sZ_, sS_, i64_w, i32_w]
         rfl
        refine pure_ (i := 2) (N := some 19) (v := ?_) (a' := ?_) #[true, true, true, false, false, false, false, false, false, false] rfl rfl (any_of HT_.out (by kernel_rfl)) (fun _ _ _ h => h) (Or.inl ⟨by rfl, ?_⟩) ?_ ?_
        rotate_left
        ·intro w'
         go_simp
         with_reducible rfl
        rotate_left
        ·simp only [Act.put, sI_, sZ_, sS_, i64_w, i32_w]
         rfl
        refine pure_ (i := 4) (N := some 21) (v := ?_) (a' := ?_) #[true, true, true, false, true, false, false, false, false, false] rfl rfl (any_of HT_.out (by kernel_rfl)) (fun _ _ _ h => h) (Or.inl ⟨by rfl, ?_⟩) ?_ ?_
        rotate_left
        ·intro w'
         go_simp
         with_reducible rfl
        rotate_left
        ·simp only [Act.put, sI_, sZ_, sS_, i64_w, i32_w]
         rfl
        refine pure_ (i := 5) (N := some 22) (v := ?_) (a' := ?_) #[true, true, true, false, true, true, false, false, false, false] rfl rfl (any_of HT_.out (by kernel_rfl)) (fun _ _ _ h => h) (Or.inl ⟨by rfl, ?_⟩) ?_ ?_
        rotate_left
        ·intro w'
         go_simp
         with_reducible rfl
        rotate_left
        ·simp only [Act.put, sI_, sZ_, sS_, i64_w, i32_w]
         rfl
        refine pure_ (i := 6) (N := some 23) (v := ?_) (a' := ?_) #[true, true, true, false, true, true, true, false, false, false] rfl rfl (any_of HT_.out (by kernel_rfl)) (fun _ _ _ h => h) (Or.inl ⟨by rfl, ?_⟩) ?_ ?_
        rotate_left
        ·intro w'
         go_simp
         with_reducible rfl
        rotate_left
        ·simp only [Act.put, sI_, sZ_, sS_, i64_w, i32_w]
         rfl
        refine take_ (i := 3) (N := some 20) (v := ?_) (a' := ?_) #[true, true, true, true, true, true, true, false, false, false] rfl rfl (take_ofW HT_.out HW_.out (by kernel_rfl)) (fun _ _ _ h => h) (Or.inl ⟨by rfl, ?_⟩) hHeld ?_ ?_
        rotate_left
        ·rintro w' ⟨s0, s1, s2, s3⟩
         go_simp
         with_reducible rfl
        rotate_left
        ·simp only [Act.put, sI_, sZ_, sS_, i64_w, i32_w]
         rfl
        refine take_ (i := 7) (N := some 24) (v := ?_) (a' := ?_) #[true, true, true, true, true, true, true, true, false, false] rfl rfl (take_ofW HT_.out HW_.out (by kernel_rfl)) (fun _ _ _ h => h) (Or.inl ⟨by rfl, ?_⟩) hHeld ?_ ?_
        rotate_left
        ·rintro w' ⟨s0, s1, s2, s3⟩
         go_simp
         with_reducible rfl
        rotate_left
        ·simp only [Act.put, sI_, sZ_, sS_, i64_w, i32_w]
         rfl
        refine one_ (i := 8) (N := some 25) #[true, true, true, true, true, true, true, true, true, false] rfl rfl (one_of HT_.out (by kernel_rfl)) (by decide) (fun K hK => ?_)
        refine goes_ Try.func104 (by kernel_rfl) rfl #[.agg #[.int .i64 ((rd_T58 l0 x5_1).f0), .slice A204_1 ((rd_T58 l0 x5_1).f1).length c204_1], .agg #[.int .i64 ((rd_T58 l1 x5_1).f0), .slice A205_1 ((rd_T58 l1 x5_1).f1).length c205_1]] (by rfl) rfl rfl (by (try simp only [mA_, mC_, mN_]); first | done | rfl | (simp only [lD_, lT_]; rfl)) ?_
        with_reducible refine (laws_eqWrite.calls k1 ((rd_T58 l0 x5_1).f0) _ _ ((rd_T58 l0 x5_1).f1) ((rd_T58 l1 x5_1).f0) _ _ ((rd_T58 l1 x5_1).f1) true _ ?side1 ?side2 ?side3 ?side4 A7.out).mono ?_
        (case side1 => repeat (first | exact (Kd.C_below HR204_1.out HB.out) | (with_reducible refine cA_ ?_ _) | (with_reducible refine cN_ ?_ _) | (with_reducible refine cD_ ?_)))
        (case side2 => exact HC204_1.out)
        (case side3 => repeat (first | exact (Kd.C_below HR205_1.out HB.out) | (with_reducible refine cA_ ?_ _) | (with_reducible refine cN_ ?_ _) | (with_reducible refine cD_ ?_)))
        (case side4 => exact HC205_1.out)
        rintro e w10 ⟨rfl, hb⟩
        refine ⟨_, rfl, ?_⟩
        have n0_ := aM_ (bT_ (by repeat (first | (with_reducible first | exact HB.out | apply bA_ | apply bN_ | apply bD_) | exact HB.out)) hb)
        clear HB
        have HB := n0_
        clear n0_
        (try clear hb)
        (try clear hb2)
        (try clear hk)
        (try clear hi)
        refine hK.out _ _ ⟨((HB.out.cell (wL_ w _ hw204_0)).trans hw204_0), ((HB.out.cell (wL_ w _ hw204_1)).trans hw204_1), ((HB.out.cell (wL_ w _ hw205_0)).trans hw205_0), ((HB.out.cell (wL_ w _ hw205_1)).trans hw205_1)⟩ (fun hHeld => ?_)
        clear hK K
        refine norm_ (a' := ?_) ?_ ?_
        rotate_left
        ·show Act.put _ (some 25) _ = _
         simp only [Act.put, sI_, sZ_, sS_, i64_w, i32_w]
         rfl
        refine pure_ (i := 9) (N := some 26) (v := ?_) (a' := ?_) #[true, true, true, true, true, true, true, true, true, true] rfl rfl (any_of HT_.out (by kernel_rfl)) (fun _ _ _ h => h) (Or.inl ⟨by rfl, ?_⟩) ?_ ?_
        rotate_left
        ·intro w'
         go_simp
         with_reducible rfl
        rotate_left
        ·simp only [Act.put, sI_, sZ_, sS_, i64_w, i32_w]
         rfl
        refine done_ (done_of HT_.out (by kernel_rfl)) ?_
        try go_wp2
        go_roundg k1
        case measure => have := HK1.out; omega
        case rel => exact ⟨(wrap64 (x5_1 + 1)), (by first | rfl | (simp; done) | (simp [*]; done)), H', ⟨by have := HK1.out; omega⟩, ⟨by repeat (first | (with_reducible first | exact HB.out | apply bA_ | apply bN_ | apply bD_) | exact HB.out)⟩⟩
       ·replace c8 := Bool.eq_false_iff.mpr c8
        subst c8
        have H1 : (some false) = some r := by rw [if_neg (show ¬ (false = true) by decide)] at H; exact H
        clear H
        have H := H1
        clear H1
        obtain rfl := Option.some.inj H
        try go_wp2
        have n0_ := aM_ (bD_ HB.out)
        clear HB
        have HB := n0_
        clear n0_
        have p204 : 0 ≤ (x5_1 : Int) := oT_ (by first | (with_reducible assumption) | assumption)
        have q204 : x5_1 < (l0.length : Int) := oT_ (by first | (with_reducible assumption) | assumption)
        obtain ⟨ad204, A204_1, c204_1, e204, hx204_0, hx204_1, hl204_1, hi204_1⟩ := at_T58 HR0.out x5_1 p204 q204
        have hw204_1 := hx204_1
        have hw204_0 := hx204_0
        cases e204
        replace hx204_0 := (HB.out.cell (wL_ w _ hx204_0)).trans hx204_0
        replace hx204_1 := (HB.out.cell (wL_ w _ hx204_1)).trans hx204_1
        have HR204_1 := aM_ hi204_1
        have HC204_1 := aM_ hl204_1
        clear hi204_1 hl204_1
        replace p204 := eq_true p204
        replace q204 := eq_true q204
        have p205 : 0 ≤ (x5_1 : Int) := oT_ (by first | (with_reducible assumption) | assumption)
        have q205 : x5_1 < (l1.length : Int) := oT_ (by first | (with_reducible assumption) | assumption)
        obtain ⟨ad205, A205_1, c205_1, e205, hx205_0, hx205_1, hl205_1, hi205_1⟩ := at_T58 HR1.out x5_1 p205 q205
        have hw205_1 := hx205_1
        have hw205_0 := hx205_0
        cases e205
        replace hx205_0 := (HB.out.cell (wL_ w _ hx205_0)).trans hx205_0
        replace hx205_1 := (HB.out.cell (wL_ w _ hx205_1)).trans hx205_1
        have HR205_1 := aM_ hi205_1
        have HC205_1 := aM_ hl205_1
        clear hi205_1 hl205_1
        replace p205 := eq_true p205
        replace q205 := eq_true q205
        refine start_ (n := 10) (S := fun w' => w'.cell? (ad204.add ((x5_1).toNat * 2)) = some (.int .i64 ((rd_T58 l0 x5_1).f0)) ∧ w'.cell? ⟨(ad204.add ((x5_1).toNat * 2)).block, (ad204.add ((x5_1).toNat * 2)).off + 1, none⟩ = some (.slice A204_1 ((rd_T58 l0 x5_1).f1).length c204_1) ∧ w'.cell? (ad205.add ((x5_1).toNat * 2)) = some (.int .i64 ((rd_T58 l1 x5_1).f0)) ∧ w'.cell? ⟨(ad205.add ((x5_1).toNat * 2)).block, (ad205.add ((x5_1).toNat * 2)).off + 1, none⟩ = some (.slice A205_1 ((rd_T58 l1 x5_1).f1).length c205_1)) (ds := []) #[false, false, false, false, false, false, false, false, false, false] (by kernel_rfl) rfl rfl ⟨((HB.out.cell (wL_ w _ hw204_0)).trans hw204_0), ((HB.out.cell (wL_ w _ hw204_1)).trans hw204_1), ((HB.out.cell (wL_ w _ hw205_0)).trans hw205_0), ((HB.out.cell (wL_ w _ hw205_1)).trans hw205_1)⟩ (fun hHeld => ?_); refine with_tabW laws_eqWriteS.tab6 laws_eqWriteS.bits6 (fun HT_ HW_ => ?_)
        generalize wr.drew = w11 at HB HR204_1 HR205_1 hx204_0 hx204_1 hx205_0 hx205_1 hHeld ⊢
        refine pure_ (i := 0) (N := some 17) (v := ?_) (a' := ?_) #[true, false, false, false, false, false, false, false, false, false] rfl rfl (any_of HT_.out (by kernel_rfl)) (fun _ _ _ h => h) (Or.inl ⟨by rfl, ?_⟩) ?_ ?_
        rotate_left
        ·intro w'
         go_simp
         with_reducible rfl
        rotate_left
        ·simp only [Act.put, sI_, sZ_, sS_, i64_w, i32_w]
         rfl
        refine pure_ (i := 1) (N := some 18) (v := ?_) (a' := ?_) #[true, true, false, false, false, false, false, false, false, false] rfl rfl (any_of HT_.out (by kernel_rfl)) (fun _ _ _ h => h) (Or.inl ⟨by rfl, ?_⟩) ?_ ?_
        rotate_left
        ·intro w'
         go_simp
         with_reducible rfl
        rotate_left
        ·simp only [Act.put, sI_, sZ_, sS_, i64_w, i32_w]
         rfl
        refine pure_ (i := 2) (N := some 19) (v := ?_) (a' := ?_) #[true, true, true, false, false, false, false, false, false, false] rfl rfl (any_of HT_.out (by kernel_rfl)) (fun _ _ _ h => h) (Or.inl ⟨by rfl, ?_⟩) ?_ ?_
        rotate_left
        ·intro w'
         go_simp
         with_reducible rfl
        rotate_left
        ·simp only [Act.put, sI_, sZ_, sS_, i64_w, i32_w]
         rfl
        refine pure_ (i := 4) (N := some 21) (v := ?_) (a' := ?_) #[true, true, true, false, true, false, false, false, false, false] rfl rfl (any_of HT_.out (by kernel_rfl)) (fun _ _ _ h => h) (Or.inl ⟨by rfl, ?_⟩) ?_ ?_
        rotate_left
        ·intro w'
         go_simp
         with_reducible rfl
        rotate_left
        ·simp only [Act.put, sI_, sZ_, sS_, i64_w, i32_w]
         rfl
        refine pure_ (i := 5) (N := some 22) (v := ?_) (a' := ?_) #[true, true, true, false, true, true, false, false, false, false] rfl rfl (any_of HT_.out (by kernel_rfl)) (fun _ _ _ h => h) (Or.inl ⟨by rfl, ?_⟩) ?_ ?_
        rotate_left
        ·intro w'
         go_simp
         with_reducible rfl
        rotate_left
        ·simp only [Act.put, sI_, sZ_, sS_, i64_w, i32_w]
         rfl
        refine pure_ (i := 6) (N := some 23) (v := ?_) (a' := ?_) #[true, true, true, false, true, true, true, false, false, false] rfl rfl (any_of HT_.out (by kernel_rfl)) (fun _ _ _ h => h) (Or.inl ⟨by rfl, ?_⟩) ?_ ?_
        rotate_left
        ·intro w'
         go_simp
         with_reducible rfl
        rotate_left
        ·simp only [Act.put, sI_, sZ_, sS_, i64_w, i32_w]
         rfl
        refine take_ (i := 3) (N := some 20) (v := ?_) (a' := ?_) #[true, true, true, true, true, true, true, false, false, false] rfl rfl (take_ofW HT_.out HW_.out (by kernel_rfl)) (fun _ _ _ h => h) (Or.inl ⟨by rfl, ?_⟩) hHeld ?_ ?_
        rotate_left
        ·rintro w' ⟨s0, s1, s2, s3⟩
         go_simp
         with_reducible rfl
        rotate_left
        ·simp only [Act.put, sI_, sZ_, sS_, i64_w, i32_w]
         rfl
        refine take_ (i := 7) (N := some 24) (v := ?_) (a' := ?_) #[true, true, true, true, true, true, true, true, false, false] rfl rfl (take_ofW HT_.out HW_.out (by kernel_rfl)) (fun _ _ _ h => h) (Or.inl ⟨by rfl, ?_⟩) hHeld ?_ ?_
        rotate_left
        ·rintro w' ⟨s0, s1, s2, s3⟩
         go_simp
         with_reducible rfl
        rotate_left
        ·simp only [Act.put, sI_, sZ_, sS_, i64_w, i32_w]
         rfl
        refine one_ (i := 8) (N := some 25) #[true, true, true, true, true, true, true, true, true, false] rfl rfl (one_of HT_.out (by kernel_rfl)) (by decide) (fun K hK => ?_)
        refine goes_ Try.func104 (by kernel_rfl) rfl #[.agg #[.int .i64 ((rd_T58 l0 x5_1).f0), .slice A204_1 ((rd_T58 l0 x5_1).f1).length c204_1], .agg #[.int .i64 ((rd_T58 l1 x5_1).f0), .slice A205_1 ((rd_T58 l1 x5_1).f1).length c205_1]] (by rfl) rfl rfl (by (try simp only [mA_, mC_, mN_]); first | done | rfl | (simp only [lD_, lT_]; rfl)) ?_
        with_reducible refine (laws_eqWrite.calls k1 ((rd_T58 l0 x5_1).f0) _ _ ((rd_T58 l0 x5_1).f1) ((rd_T58 l1 x5_1).f0) _ _ ((rd_T58 l1 x5_1).f1) false _ ?side1 ?side2 ?side3 ?side4 A7.out).mono ?_
        (case side1 => repeat (first | exact (Kd.C_below HR204_1.out HB.out) | (with_reducible refine cA_ ?_ _) | (with_reducible refine cN_ ?_ _) | (with_reducible refine cD_ ?_)))
        (case side2 => exact HC204_1.out)
        (case side3 => repeat (first | exact (Kd.C_below HR205_1.out HB.out) | (with_reducible refine cA_ ?_ _) | (with_reducible refine cN_ ?_ _) | (with_reducible refine cD_ ?_)))
        (case side4 => exact HC205_1.out)
        rintro e w12 ⟨rfl, hb⟩
        refine ⟨_, rfl, ?_⟩
        have n0_ := aM_ (bT_ (by repeat (first | (with_reducible first | exact HB.out | apply bA_ | apply bN_ | apply bD_) | exact HB.out)) hb)
        clear HB
        have HB := n0_
        clear n0_
        (try clear hb)
        (try clear hb2)
        (try clear hk)
        (try clear hi)
        refine hK.out _ _ ⟨((HB.out.cell (wL_ w _ hw204_0)).trans hw204_0), ((HB.out.cell (wL_ w _ hw204_1)).trans hw204_1), ((HB.out.cell (wL_ w _ hw205_0)).trans hw205_0), ((HB.out.cell (wL_ w _ hw205_1)).trans hw205_1)⟩ (fun hHeld => ?_)
        clear hK K
        refine norm_ (a' := ?_) ?_ ?_
        rotate_left
        ·show Act.put _ (some 25) _ = _
         simp only [Act.put, sI_, sZ_, sS_, i64_w, i32_w]
         rfl
        refine pure_ (i := 9) (N := some 26) (v := ?_) (a' := ?_) #[true, true, true, true, true, true, true, true, true, true] rfl rfl (any_of HT_.out (by kernel_rfl)) (fun _ _ _ h => h) (Or.inl ⟨by rfl, ?_⟩) ?_ ?_
        rotate_left
        ·intro w'
         go_simp
         with_reducible rfl
        rotate_left
        ·simp only [Act.put, sI_, sZ_, sS_, i64_w, i32_w]
         rfl
        refine done_ (done_of HT_.out (by kernel_rfl)) ?_
        try go_wp2
        go_ret
        exact ⟨by first | rfl | (simp [errW_none, errW_some] <;> rfl) | (simp [*, errW_none, errW_some] <;> rfl), by repeat (first | (with_reducible first | exact HB.out | apply bA_ | apply bN_ | apply bD_) | exact HB.out)⟩
      ·rw [if_neg c6] at H
       exact absurd H (by simp)
     ·rw [if_neg c5] at H
      exact absurd H (by simp)
    ·rw [if_neg c4] at H
     have c4b0 : decide (x5_1 < (l0.length : Int)) = false := decide_eq_false c4
     clear c4
     obtain rfl := Option.some.inj H
     go_wp2
     go_ret
     exact ⟨by first | rfl | (simp [errW_none, errW_some] <;> rfl) | (simp [*, errW_none, errW_some] <;> rfl), by repeat (first | (with_reducible first | exact HB.out | apply bA_ | apply bN_ | apply bD_) | exact HB.out)⟩
 ·rw [if_neg c3] at H
  have c3b0 : ((l0.length : Int) == (l1.length : Int)) = false := beq_eq_false_iff_ne.mpr c3
  have c3b1 : ((l0.length : Int) != (l1.length : Int)) = true := bne_iff_ne.mpr c3
  have c3b2 : (l0.length == l1.length) = false := by first | simpa using c3 | (simp at c3 ⊢; omega)
  obtain rfl := Option.some.inj H
  go_enter Try.func64, Try.ntmps64
  go_wp2
  go_ret
  exact ⟨by first | rfl | (simp [errW_none, errW_some] <;> rfl) | (simp [*, errW_none, errW_some] <;> rfl), by repeat (first | (with_reducible first | exact HB.out | apply bA_ | apply bN_ | apply bD_) | exact HB.out)⟩

/-! ### laws_eqDisk: function 18 -/
def laws_eqDisk.f (k : Nat) (l0_0 : List (List Int)) (l0_1 : List (S58)) (a0_2 : Int) (l0_3 : List (S78)) (a0_4 : Bool) (l1_0 : List (List Int)) (l1_1 : List (S58)) (a1_2 : Int) (l1_3 : List (S78)) (a1_4 : Bool) : Option (Bool) := (laws_eqByteSS.f k l0_0 l1_0).bind fun t209 => (if t209 = true then ((laws_eqWriteS.f k l0_1 l1_1).bind fun t210 => (if t210 = true then (if a0_2 = a1_2 then ((laws_eqFaultS.f k l0_3 l1_3).bind fun t211 => (if t211 = true then (if (a0_4 != a1_4) = true then (some false) else (some true)) else (some false))) else (some false)) else (some false))) else (some false))
theorem laws_eqDisk.mono : ∀ a0 a1 a2 a3 a4 a5 a6 a7 a8 a9 k, LeO (laws_eqDisk.f k a0 a1 a2 a3 a4 a5 a6 a7 a8 a9) (laws_eqDisk.f (k + 1) a0 a1 a2 a3 a4 a5 a6 a7 a8 a9) := by
 intro a0 a1 a2 a3 a4 a5 a6 a7 a8 a9 k
 unfold laws_eqDisk.f
 repeat' first
   | (with_reducible exact laws_eqByteSS.mono _ _ _)
   | (with_reducible exact laws_eqFaultS.mono _ _ _)
   | (with_reducible exact laws_eqWriteS.mono _ _ _)
   | (with_reducible exact LeO.refl _)
   | (with_reducible exact LeO.none _)
   | (with_reducible refine LeO.ite ?_ ?_)
   | (with_reducible refine LeO.bind ?_ (fun _ => ?_))
   | exact laws_eqByteSS.mono _ _ _
   | exact laws_eqFaultS.mono _ _ _
   | exact laws_eqWriteS.mono _ _ _
   | exact LeO.none _
   | refine LeO.ite ?_ ?_
   | refine LeO.bind ?_ (fun _ => ?_)
set_option maxHeartbeats 8000000 in
set_option maxRecDepth 100000 in
theorem laws_eqDisk.calls (k : Nat) (A0_0 : Option Addr) (c0_0 : Nat) (l0_0 : List (List Int)) (A0_1 : Option Addr) (c0_1 : Nat) (l0_1 : List (S58)) (a0_2 : Int) (A0_3 : Option Addr) (c0_3 : Nat) (l0_3 : List (S78)) (a0_4 : Bool) (A1_0 : Option Addr) (c1_0 : Nat) (l1_0 : List (List Int)) (A1_1 : Option Addr) (c1_1 : Nat) (l1_1 : List (S58)) (a1_2 : Int) (A1_3 : Option Addr) (c1_3 : Nat) (l1_3 : List (S78)) (a1_4 : Bool) (r : Bool) (w : World) (hr0_0 : Kd.C (Kd.slice 5 (Kd.int .u8)) w A0_0 l0_0.length l0_0) (hc0_0 : l0_0.length ≤ c0_0) (hr0_1 : Kd.C k58 w A0_1 l0_1.length l0_1) (hc0_1 : l0_1.length ≤ c0_1) (hr0_3 : Kd.C k78 w A0_3 l0_3.length l0_3) (hc0_3 : l0_3.length ≤ c0_3) (hr1_0 : Kd.C (Kd.slice 5 (Kd.int .u8)) w A1_0 l1_0.length l1_0) (hc1_0 : l1_0.length ≤ c1_0) (hr1_1 : Kd.C k58 w A1_1 l1_1.length l1_1) (hc1_1 : l1_1.length ≤ c1_1) (hr1_3 : Kd.C k78 w A1_3 l1_3.length l1_3) (hc1_3 : l1_3.length ≤ c1_3) (h : laws_eqDisk.f k l0_0 l0_1 a0_2 l0_3 a0_4 l1_0 l1_1 a1_2 l1_3 a1_4 = some r) :
  Calls Try.prog 18 #[.agg #[.slice A0_0 l0_0.length c0_0, .slice A0_1 l0_1.length c0_1, .int .i64 a0_2, .slice A0_3 l0_3.length c0_3, .bool a0_4], .agg #[.slice A1_0 l1_0.length c1_0, .slice A1_1 l1_1.length c1_1, .int .i64 a1_2, .slice A1_3 l1_3.length c1_3, .bool a1_4]] w fun e w' => e = .returned (.bool r) ∧ Below w.heap.size w w' := by
 have hu32 := Try.underlying32
 have HR0_0 := aM_ hr0_0
 have HC0_0 := aM_ hc0_0
 clear hr0_0 hc0_0
 have HR0_1 := aM_ hr0_1
 have HC0_1 := aM_ hc0_1
 clear hr0_1 hc0_1
 have HR0_3 := aM_ hr0_3
 have HC0_3 := aM_ hc0_3
 clear hr0_3 hc0_3
 have HR1_0 := aM_ hr1_0
 have HC1_0 := aM_ hc1_0
 clear hr1_0 hc1_0
 have HR1_1 := aM_ hr1_1
 have HC1_1 := aM_ hc1_1
 clear hr1_1 hc1_1
 have HR1_3 := aM_ hr1_3
 have HC1_3 := aM_ hc1_3
 clear hr1_3 hc1_3
 have HB := aM_ (Below.refl w.heap.size w)
 have H : ((laws_eqByteSS.f k l0_0 l1_0).bind fun t209 => (if t209 = true then ((laws_eqWriteS.f k l0_1 l1_1).bind fun t210 => (if t210 = true then (if a0_2 = a1_2 then ((laws_eqFaultS.f k l0_3 l1_3).bind fun t211 => (if t211 = true then (if (a0_4 != a1_4) = true then (some false) else (some true)) else (some false))) else (some false)) else (some false))) else (some false))) = some r := h
 clear h
 replace H := oB_ H
 obtain ⟨t209, A30, H⟩ := H
 replace H : (if t209 = true then ((laws_eqWriteS.f k l0_1 l1_1).bind fun t210 => (if t210 = true then (if a0_2 = a1_2 then ((laws_eqFaultS.f k l0_3 l1_3).bind fun t211 => (if t211 = true then (if (a0_4 != a1_4) = true then (some false) else (some true)) else (some false))) else (some false)) else (some false))) else (some false)) = some r := H
 have A3 := aM_ A30
 clear A30
 by_cases c4 : t209 = true
 ·subst c4
  have H1 : ((laws_eqWriteS.f k l0_1 l1_1).bind fun t210 => (if t210 = true then (if a0_2 = a1_2 then ((laws_eqFaultS.f k l0_3 l1_3).bind fun t211 => (if t211 = true then (if (a0_4 != a1_4) = true then (some false) else (some true)) else (some false))) else (some false)) else (some false))) = some r := by rw [if_pos rfl] at H; exact H
  clear H
  have H := H1
  clear H1
  replace H := oB_ H
  obtain ⟨t210, A50, H⟩ := H
  replace H : (if t210 = true then (if a0_2 = a1_2 then ((laws_eqFaultS.f k l0_3 l1_3).bind fun t211 => (if t211 = true then (if (a0_4 != a1_4) = true then (some false) else (some true)) else (some false))) else (some false)) else (some false)) = some r := H
  have A5 := aM_ A50
  clear A50
  by_cases c6 : t210 = true
  ·subst c6
   have H1 : (if a0_2 = a1_2 then ((laws_eqFaultS.f k l0_3 l1_3).bind fun t211 => (if t211 = true then (if (a0_4 != a1_4) = true then (some false) else (some true)) else (some false))) else (some false)) = some r := by rw [if_pos rfl] at H; exact H
   clear H
   have H := H1
   clear H1
   by_cases c7 : a0_2 = a1_2
   ·rw [if_pos c7] at H
    have c7b0 : (a0_2 == a1_2) = true := beq_iff_eq.mpr c7
    have c7b1 : (a0_2 != a1_2) = false := bne_eq_false_iff_eq.mpr c7
    clear c7
    replace H := oB_ H
    obtain ⟨t211, A80, H⟩ := H
    replace H : (if t211 = true then (if (a0_4 != a1_4) = true then (some false) else (some true)) else (some false)) = some r := H
    have A8 := aM_ A80
    clear A80
    by_cases c9 : t211 = true
    ·subst c9
     have H1 : (if (a0_4 != a1_4) = true then (some false) else (some true)) = some r := by rw [if_pos rfl] at H; exact H
     clear H
     have H := H1
     clear H1
     by_cases c10 : (a0_4 != a1_4) = true
     ·rw [if_pos c10] at H
      have c10b0 : (a0_4 != a1_4) = true := c10
      (try (have c10b1 : decide (a0_4 = a1_4) = false := by simpa using c10))
      (try (have c10b2 : (a0_4 == a1_4) = false := by simpa using c10))
      (try (have c10b3 : ¬ (a0_4 = a1_4) := by simpa using c10))
      clear c10
      obtain rfl := Option.some.inj H
      go_enter Try.func18, Try.ntmps18
      go_wp2_with (first | ((with_reducible refine gate_dst (N := 2) rfl ?_); refine box_event ?hg (N := 2) ?hd (cs := #[.slice A0_0 l0_0.length c0_0, .slice A0_1 l0_1.length c0_1, .int .i64 a0_2, .slice A0_3 l0_3.length c0_3, .bool a0_4]) (t := 32) ?hr ?_; (case hd => rfl); (case hg => rfl); (case hr => first | (go_simp; done) | (go_simp; rfl)); intro gb207 hg w11 hbox hb; have n0_ := aM_ (bT_ (by repeat (first | (with_reducible first | exact HB.out | apply bA_ | apply bN_ | apply bD_) | exact HB.out)) hb); have n1_ := aM_ (hbox); have n2_ := aM_ ((by rw [hg]; exact (bS_ (by repeat (first | (with_reducible first | exact HB.out | apply bA_ | apply bN_ | apply bD_) | exact HB.out))) : w.heap.size ≤ gb207)); have n3_ := aM_ ((by rw [hg]; exact (bS_ (by repeat (first | (with_reducible first | exact HB.out | apply bA_ | apply bN_ | apply bD_) | exact HB.out))) : w.heap.size ≤ gb207)); clear HB; have HB := n0_; have BK207 := n1_; have GW207 := n2_; have GE207 := n3_; clear n0_ n1_ n2_ n3_; clear hb hbox hg) | ((with_reducible refine gate_dst (N := 3) rfl ?_); refine box_event ?hg (N := 3) ?hd (cs := #[.slice A1_0 l1_0.length c1_0, .slice A1_1 l1_1.length c1_1, .int .i64 a1_2, .slice A1_3 l1_3.length c1_3, .bool a1_4]) (t := 32) ?hr ?_; (case hd => rfl); (case hg => rfl); (case hr => first | (go_simp; done) | (go_simp; rfl)); intro gb208 hg w12 hbox hb; have n0_ := aM_ (blk_below (g := gb207) (o := .cells #[.slice A0_0 l0_0.length c0_0, .slice A0_1 l0_1.length c0_1, .int .i64 a0_2, .slice A0_3 l0_3.length c0_3, .bool a0_4] 32 (0, 0)) (by (with_reducible repeat (first | refine kN_ ?_ _ | refine kD_ ?_ | refine kA_ ?_ _)); exact BK207.out) hb); have n1_ := aM_ (bT_ (by repeat (first | (with_reducible first | exact HB.out | apply bA_ | apply bN_ | apply bD_ | refine bE_ ?_ GE207.out) | exact HB.out)) hb); have n2_ := aM_ (hbox); have n3_ := aM_ ((by rw [hg]; exact (bS_ (by repeat (first | (with_reducible first | exact HB.out | apply bA_ | apply bN_ | apply bD_ | refine bE_ ?_ GE207.out) | exact HB.out))) : w.heap.size ≤ gb208)); have n4_ := aM_ ((by rw [hg]; exact (bS_ (by repeat (first | (with_reducible first | exact HB.out | apply bA_ | apply bN_ | apply bD_ | refine bE_ ?_ GE207.out) | exact HB.out))) : w.heap.size ≤ gb208)); have n5_ := aM_ ((by rw [hg]; exact Nat.ne_of_lt (blk_lt (g := gb207) (o := .cells #[.slice A0_0 l0_0.length c0_0, .slice A0_1 l0_1.length c0_1, .int .i64 a0_2, .slice A0_3 l0_3.length c0_3, .bool a0_4] 32 (0, 0)) (by (with_reducible repeat (first | refine kN_ ?_ _ | refine kD_ ?_ | refine kA_ ?_ _)); exact BK207.out)) : gb207 ≠ gb208)); have n6_ := aM_ ((by rw [hg]; exact Nat.ne_of_gt (blk_lt (g := gb207) (o := .cells #[.slice A0_0 l0_0.length c0_0, .slice A0_1 l0_1.length c0_1, .int .i64 a0_2, .slice A0_3 l0_3.length c0_3, .bool a0_4] 32 (0, 0)) (by (with_reducible repeat (first | refine kN_ ?_ _ | refine kD_ ?_ | refine kA_ ?_ _)); exact BK207.out)) : gb208 ≠ gb207)); clear BK207; clear HB; have BK207 := n0_; have HB := n1_; have BK208 := n2_; have GW208 := n3_; have GE208 := n4_; have NB207_208 := n5_; have NB208_207 := n6_; clear n0_ n1_ n2_ n3_ n4_ n5_ n6_; clear hb hbox hg; have hnb13 := NB207_208.out; have hnc13 := NB208_207.out; have hcz14_0 : w12.cell? ⟨gb207, 0, none⟩ = some (.slice A0_0 l0_0.length c0_0) := (kC_ BK207.out 0).trans rfl; have hcz14_1 : w12.cell? ⟨gb207, 1, none⟩ = some (.slice A0_1 l0_1.length c0_1) := (kC_ BK207.out 1).trans rfl; have hcz14_2 : w12.cell? ⟨gb207, 2, none⟩ = some (.int .i64 a0_2) := (kC_ BK207.out 2).trans rfl; have hcz14_3 : w12.cell? ⟨gb207, 3, none⟩ = some (.slice A0_3 l0_3.length c0_3) := (kC_ BK207.out 3).trans rfl; have hcz14_4 : w12.cell? ⟨gb207, 4, none⟩ = some (.bool a0_4) := (kC_ BK207.out 4).trans rfl; have hfz14_0 := kF_ BK207.out 0; have hfz14_1 := kF_ BK207.out 1; have hfz14_2 := kF_ BK207.out 2; have hfz14_3 := kF_ BK207.out 3; have hfz14_4 := kF_ BK207.out 4; have hcz15_0 : w12.cell? ⟨gb208, 0, none⟩ = some (.slice A1_0 l1_0.length c1_0) := (kC_ BK208.out 0).trans rfl; have hcz15_1 : w12.cell? ⟨gb208, 1, none⟩ = some (.slice A1_1 l1_1.length c1_1) := (kC_ BK208.out 1).trans rfl; have hcz15_2 : w12.cell? ⟨gb208, 2, none⟩ = some (.int .i64 a1_2) := (kC_ BK208.out 2).trans rfl; have hcz15_3 : w12.cell? ⟨gb208, 3, none⟩ = some (.slice A1_3 l1_3.length c1_3) := (kC_ BK208.out 3).trans rfl; have hcz15_4 : w12.cell? ⟨gb208, 4, none⟩ = some (.bool a1_4) := (kC_ BK208.out 4).trans rfl; have hfz15_0 := kF_ BK208.out 0; have hfz15_1 := kF_ BK208.out 1; have hfz15_2 := kF_ BK208.out 2; have hfz15_3 := kF_ BK208.out 3; have hfz15_4 := kF_ BK208.out 4) | ((with_reducible refine gate_callee (f := 63) rfl ?_); refine goesL_ (some 9) rfl rfl Try.func63 (by kernel_rfl) rfl #[.slice A0_0 l0_0.length c0_0, .slice A1_0 l1_0.length c1_0] rfl (by (try simp only [mA_, mC_, mN_]); first | done | rfl | (simp only [lD_, lT_]; rfl)) ?_; (with_reducible refine (laws_eqByteSS.calls k _ _ l0_0 _ _ l1_0 true _ ?side1 ?side2 ?side3 ?side4 A3.out).mono ?_); (case side1 => repeat (first | exact (Kd.C_below HR0_0.out HB.out) | (with_reducible refine cA_ ?_ _) | (with_reducible refine cN_ ?_ _) | (with_reducible refine cD_ ?_))); (case side2 => exact HC0_0.out); (case side3 => repeat (first | exact (Kd.C_below HR1_0.out HB.out) | (with_reducible refine cA_ ?_ _) | (with_reducible refine cN_ ?_ _) | (with_reducible refine cD_ ?_))); (case side4 => exact HC1_0.out); rintro e w' ⟨rfl, ⟨nd, rfl⟩⟩; refine ⟨_, rfl, ?_⟩) | ((with_reducible refine gate_callee (f := 64) rfl ?_); refine goesL_ (some 15) rfl rfl Try.func64 (by kernel_rfl) rfl #[.slice A0_1 l0_1.length c0_1, .slice A1_1 l1_1.length c1_1] rfl (by (try simp only [mA_, mC_, mN_]); first | done | rfl | (simp only [lD_, lT_]; rfl)) ?_; (with_reducible refine (laws_eqWriteS.calls k _ _ l0_1 _ _ l1_1 true _ ?side1 ?side2 ?side3 ?side4 A5.out).mono ?_); (case side1 => repeat (first | exact (Kd.C_below HR0_1.out (by repeat (first | (with_reducible first | exact HB.out | apply bA_ | apply bN_ | apply bD_ | refine bE_ ?_ GE207.out | refine bE_ ?_ GE208.out) | exact HB.out))) | (with_reducible refine cA_ ?_ _) | (with_reducible refine cN_ ?_ _) | (with_reducible refine cD_ ?_))); (case side2 => exact HC0_1.out); (case side3 => repeat (first | exact (Kd.C_below HR1_1.out (by repeat (first | (with_reducible first | exact HB.out | apply bA_ | apply bN_ | apply bD_ | refine bE_ ?_ GE207.out | refine bE_ ?_ GE208.out) | exact HB.out))) | (with_reducible refine cA_ ?_ _) | (with_reducible refine cN_ ?_ _) | (with_reducible refine cD_ ?_))); (case side4 => exact HC1_1.out); rintro e w16 ⟨rfl, hb⟩; refine ⟨_, rfl, ?_⟩; have n0_ := aM_ (blk_below (g := gb207) (o := .cells #[.slice A0_0 l0_0.length c0_0, .slice A0_1 l0_1.length c0_1, .int .i64 a0_2, .slice A0_3 l0_3.length c0_3, .bool a0_4] 32 (0, 0)) (by (with_reducible repeat (first | refine kN_ ?_ _ | refine kD_ ?_ | refine kA_ ?_ _)); exact BK207.out) hb); have n1_ := aM_ (blk_below (g := gb208) (o := .cells #[.slice A1_0 l1_0.length c1_0, .slice A1_1 l1_1.length c1_1, .int .i64 a1_2, .slice A1_3 l1_3.length c1_3, .bool a1_4] 32 (0, 0)) (by (with_reducible repeat (first | refine kN_ ?_ _ | refine kD_ ?_ | refine kA_ ?_ _)); exact BK208.out) hb); have n2_ := aM_ (bT_ (by repeat (first | (with_reducible first | exact HB.out | apply bA_ | apply bN_ | apply bD_ | refine bE_ ?_ GE207.out | refine bE_ ?_ GE208.out) | exact HB.out)) hb); clear BK207; clear BK208; clear HB; have BK207 := n0_; have BK208 := n1_; have HB := n2_; clear n0_ n1_ n2_; (try clear hb); (try clear hb2); (try clear hk); (try clear hi); have hcz17_0 : w16.cell? ⟨gb207, 0, none⟩ = some (.slice A0_0 l0_0.length c0_0) := (kC_ BK207.out 0).trans rfl; have hcz17_1 : w16.cell? ⟨gb207, 1, none⟩ = some (.slice A0_1 l0_1.length c0_1) := (kC_ BK207.out 1).trans rfl; have hcz17_2 : w16.cell? ⟨gb207, 2, none⟩ = some (.int .i64 a0_2) := (kC_ BK207.out 2).trans rfl; have hcz17_3 : w16.cell? ⟨gb207, 3, none⟩ = some (.slice A0_3 l0_3.length c0_3) := (kC_ BK207.out 3).trans rfl; have hcz17_4 : w16.cell? ⟨gb207, 4, none⟩ = some (.bool a0_4) := (kC_ BK207.out 4).trans rfl; have hfz17_0 := kF_ BK207.out 0; have hfz17_1 := kF_ BK207.out 1; have hfz17_2 := kF_ BK207.out 2; have hfz17_3 := kF_ BK207.out 3; have hfz17_4 := kF_ BK207.out 4; have hcz18_0 : w16.cell? ⟨gb208, 0, none⟩ = some (.slice A1_0 l1_0.length c1_0) := (kC_ BK208.out 0).trans rfl; have hcz18_1 : w16.cell? ⟨gb208, 1, none⟩ = some (.slice A1_1 l1_1.length c1_1) := (kC_ BK208.out 1).trans rfl; have hcz18_2 : w16.cell? ⟨gb208, 2, none⟩ = some (.int .i64 a1_2) := (kC_ BK208.out 2).trans rfl; have hcz18_3 : w16.cell? ⟨gb208, 3, none⟩ = some (.slice A1_3 l1_3.length c1_3) := (kC_ BK208.out 3).trans rfl; have hcz18_4 : w16.cell? ⟨gb208, 4, none⟩ = some (.bool a1_4) := (kC_ BK208.out 4).trans rfl; have hfz18_0 := kF_ BK208.out 0; have hfz18_1 := kF_ BK208.out 1; have hfz18_2 := kF_ BK208.out 2; have hfz18_3 := kF_ BK208.out 3; have hfz18_4 := kF_ BK208.out 4) | ((with_reducible refine gate_callee (f := 23) rfl ?_); refine goesL_ (some 26) rfl rfl Try.func23 (by kernel_rfl) rfl #[.slice A0_3 l0_3.length c0_3, .slice A1_3 l1_3.length c1_3] rfl (by (try simp only [mA_, mC_, mN_]); first | done | rfl | (simp only [lD_, lT_]; rfl)) ?_; (with_reducible refine (laws_eqFaultS.calls k _ _ l0_3 _ _ l1_3 true _ ?side1 ?side2 ?side3 ?side4 A8.out).mono ?_); (case side1 => repeat (first | exact (Kd.C_below HR0_3.out HB.out) | (with_reducible refine cA_ ?_ _) | (with_reducible refine cN_ ?_ _) | (with_reducible refine cD_ ?_))); (case side2 => exact HC0_3.out); (case side3 => repeat (first | exact (Kd.C_below HR1_3.out HB.out) | (with_reducible refine cA_ ?_ _) | (with_reducible refine cN_ ?_ _) | (with_reducible refine cD_ ?_))); (case side4 => exact HC1_3.out); rintro e w19 ⟨rfl, hb⟩; refine ⟨_, rfl, ?_⟩; have n0_ := aM_ (blk_below (g := gb207) (o := .cells #[.slice A0_0 l0_0.length c0_0, .slice A0_1 l0_1.length c0_1, .int .i64 a0_2, .slice A0_3 l0_3.length c0_3, .bool a0_4] 32 (0, 0)) (by (with_reducible repeat (first | refine kN_ ?_ _ | refine kD_ ?_ | refine kA_ ?_ _)); exact BK207.out) hb); have n1_ := aM_ (blk_below (g := gb208) (o := .cells #[.slice A1_0 l1_0.length c1_0, .slice A1_1 l1_1.length c1_1, .int .i64 a1_2, .slice A1_3 l1_3.length c1_3, .bool a1_4] 32 (0, 0)) (by (with_reducible repeat (first | refine kN_ ?_ _ | refine kD_ ?_ | refine kA_ ?_ _)); exact BK208.out) hb); have n2_ := aM_ (bT_ (by repeat (first | (with_reducible first | exact HB.out | apply bA_ | apply bN_ | apply bD_ | refine bE_ ?_ GE207.out | refine bE_ ?_ GE208.out) | exact HB.out)) hb); clear BK207; clear BK208; clear HB; have BK207 := n0_; have BK208 := n1_; have HB := n2_; clear n0_ n1_ n2_; (try clear hb); (try clear hb2); (try clear hk); (try clear hi); have hcz20_0 : w19.cell? ⟨gb207, 0, none⟩ = some (.slice A0_0 l0_0.length c0_0) := (kC_ BK207.out 0).trans rfl; have hcz20_1 : w19.cell? ⟨gb207, 1, none⟩ = some (.slice A0_1 l0_1.length c0_1) := (kC_ BK207.out 1).trans rfl; have hcz20_2 : w19.cell? ⟨gb207, 2, none⟩ = some (.int .i64 a0_2) := (kC_ BK207.out 2).trans rfl; have hcz20_3 : w19.cell? ⟨gb207, 3, none⟩ = some (.slice A0_3 l0_3.length c0_3) := (kC_ BK207.out 3).trans rfl; have hcz20_4 : w19.cell? ⟨gb207, 4, none⟩ = some (.bool a0_4) := (kC_ BK207.out 4).trans rfl; have hfz20_0 := kF_ BK207.out 0; have hfz20_1 := kF_ BK207.out 1; have hfz20_2 := kF_ BK207.out 2; have hfz20_3 := kF_ BK207.out 3; have hfz20_4 := kF_ BK207.out 4; have hcz21_0 : w19.cell? ⟨gb208, 0, none⟩ = some (.slice A1_0 l1_0.length c1_0) := (kC_ BK208.out 0).trans rfl; have hcz21_1 : w19.cell? ⟨gb208, 1, none⟩ = some (.slice A1_1 l1_1.length c1_1) := (kC_ BK208.out 1).trans rfl; have hcz21_2 : w19.cell? ⟨gb208, 2, none⟩ = some (.int .i64 a1_2) := (kC_ BK208.out 2).trans rfl; have hcz21_3 : w19.cell? ⟨gb208, 3, none⟩ = some (.slice A1_3 l1_3.length c1_3) := (kC_ BK208.out 3).trans rfl; have hcz21_4 : w19.cell? ⟨gb208, 4, none⟩ = some (.bool a1_4) := (kC_ BK208.out 4).trans rfl; have hfz21_0 := kF_ BK208.out 0; have hfz21_1 := kF_ BK208.out 1; have hfz21_2 := kF_ BK208.out 2; have hfz21_3 := kF_ BK208.out 3; have hfz21_4 := kF_ BK208.out 4))
      go_ret
      exact ⟨by first | rfl | (simp [errW_none, errW_some] <;> rfl) | (simp [*, errW_none, errW_some] <;> rfl), by repeat (first | (with_reducible first | exact HB.out | apply bA_ | apply bN_ | apply bD_ | refine bE_ ?_ GE207.out | refine bE_ ?_ GE208.out) | exact HB.out)⟩
     ·rw [if_neg c10] at H
      have c10b0 : (a0_4 != a1_4) = false := by simpa using c10
      (try (have c10b1 : decide (a0_4 = a1_4) = true := by simpa using c10))
      (try (have c10b2 : (a0_4 == a1_4) = true := by simpa using c10))
      clear c10
      obtain rfl := Option.some.inj H
      go_enter Try.func18, Try.ntmps18
      go_wp2_with (first | ((with_reducible refine gate_dst (N := 2) rfl ?_); refine box_event ?hg (N := 2) ?hd (cs := #[.slice A0_0 l0_0.length c0_0, .slice A0_1 l0_1.length c0_1, .int .i64 a0_2, .slice A0_3 l0_3.length c0_3, .bool a0_4]) (t := 32) ?hr ?_; (case hd => rfl); (case hg => rfl); (case hr => first | (go_simp; done) | (go_simp; rfl)); intro gb207 hg w22 hbox hb; have n0_ := aM_ (bT_ (by repeat (first | (with_reducible first | exact HB.out | apply bA_ | apply bN_ | apply bD_) | exact HB.out)) hb); have n1_ := aM_ (hbox); have n2_ := aM_ ((by rw [hg]; exact (bS_ (by repeat (first | (with_reducible first | exact HB.out | apply bA_ | apply bN_ | apply bD_) | exact HB.out))) : w.heap.size ≤ gb207)); have n3_ := aM_ ((by rw [hg]; exact (bS_ (by repeat (first | (with_reducible first | exact HB.out | apply bA_ | apply bN_ | apply bD_) | exact HB.out))) : w.heap.size ≤ gb207)); clear HB; have HB := n0_; have BK207 := n1_; have GW207 := n2_; have GE207 := n3_; clear n0_ n1_ n2_ n3_; clear hb hbox hg) | ((with_reducible refine gate_dst (N := 3) rfl ?_); refine box_event ?hg (N := 3) ?hd (cs := #[.slice A1_0 l1_0.length c1_0, .slice A1_1 l1_1.length c1_1, .int .i64 a1_2, .slice A1_3 l1_3.length c1_3, .bool a1_4]) (t := 32) ?hr ?_; (case hd => rfl); (case hg => rfl); (case hr => first | (go_simp; done) | (go_simp; rfl)); intro gb208 hg w23 hbox hb; have n0_ := aM_ (blk_below (g := gb207) (o := .cells #[.slice A0_0 l0_0.length c0_0, .slice A0_1 l0_1.length c0_1, .int .i64 a0_2, .slice A0_3 l0_3.length c0_3, .bool a0_4] 32 (0, 0)) (by (with_reducible repeat (first | refine kN_ ?_ _ | refine kD_ ?_ | refine kA_ ?_ _)); exact BK207.out) hb); have n1_ := aM_ (bT_ (by repeat (first | (with_reducible first | exact HB.out | apply bA_ | apply bN_ | apply bD_ | refine bE_ ?_ GE207.out) | exact HB.out)) hb); have n2_ := aM_ (hbox); have n3_ := aM_ ((by rw [hg]; exact (bS_ (by repeat (first | (with_reducible first | exact HB.out | apply bA_ | apply bN_ | apply bD_ | refine bE_ ?_ GE207.out) | exact HB.out))) : w.heap.size ≤ gb208)); have n4_ := aM_ ((by rw [hg]; exact (bS_ (by repeat (first | (with_reducible first | exact HB.out | apply bA_ | apply bN_ | apply bD_ | refine bE_ ?_ GE207.out) | exact HB.out))) : w.heap.size ≤ gb208)); have n5_ := aM_ ((by rw [hg]; exact Nat.ne_of_lt (blk_lt (g := gb207) (o := .cells #[.slice A0_0 l0_0.length c0_0, .slice A0_1 l0_1.length c0_1, .int .i64 a0_2, .slice A0_3 l0_3.length c0_3, .bool a0_4] 32 (0, 0)) (by (with_reducible repeat (first | refine kN_ ?_ _ | refine kD_ ?_ | refine kA_ ?_ _)); exact BK207.out)) : gb207 ≠ gb208)); have n6_ := aM_ ((by rw [hg]; exact Nat.ne_of_gt (blk_lt (g := gb207) (o := .cells #[.slice A0_0 l0_0.length c0_0, .slice A0_1 l0_1.length c0_1, .int .i64 a0_2, .slice A0_3 l0_3.length c0_3, .bool a0_4] 32 (0, 0)) (by (with_reducible repeat (first | refine kN_ ?_ _ | refine kD_ ?_ | refine kA_ ?_ _)); exact BK207.out)) : gb208 ≠ gb207)); clear BK207; clear HB; have BK207 := n0_; have HB := n1_; have BK208 := n2_; have GW208 := n3_; have GE208 := n4_; have NB207_208 := n5_; have NB208_207 := n6_; clear n0_ n1_ n2_ n3_ n4_ n5_ n6_; clear hb hbox hg; have hnb24 := NB207_208.out; have hnc24 := NB208_207.out; have hcz25_0 : w23.cell? ⟨gb207, 0, none⟩ = some (.slice A0_0 l0_0.length c0_0) := (kC_ BK207.out 0).trans rfl; have hcz25_1 : w23.cell? ⟨gb207, 1, none⟩ = some (.slice A0_1 l0_1.length c0_1) := (kC_ BK207.out 1).trans rfl; have hcz25_2 : w23.cell? ⟨gb207, 2, none⟩ = some (.int .i64 a0_2) := (kC_ BK207.out 2).trans rfl; have hcz25_3 : w23.cell? ⟨gb207, 3, none⟩ = some (.slice A0_3 l0_3.length c0_3) := (kC_ BK207.out 3).trans rfl; have hcz25_4 : w23.cell? ⟨gb207, 4, none⟩ = some (.bool a0_4) := (kC_ BK207.out 4).trans rfl; have hfz25_0 := kF_ BK207.out 0; have hfz25_1 := kF_ BK207.out 1; have hfz25_2 := kF_ BK207.out 2; have hfz25_3 := kF_ BK207.out 3; have hfz25_4 := kF_ BK207.out 4; have hcz26_0 : w23.cell? ⟨gb208, 0, none⟩ = some (.slice A1_0 l1_0.length c1_0) := (kC_ BK208.out 0).trans rfl; have hcz26_1 : w23.cell? ⟨gb208, 1, none⟩ = some (.slice A1_1 l1_1.length c1_1) := (kC_ BK208.out 1).trans rfl; have hcz26_2 : w23.cell? ⟨gb208, 2, none⟩ = some (.int .i64 a1_2) := (kC_ BK208.out 2).trans rfl; have hcz26_3 : w23.cell? ⟨gb208, 3, none⟩ = some (.slice A1_3 l1_3.length c1_3) := (kC_ BK208.out 3).trans rfl; have hcz26_4 : w23.cell? ⟨gb208, 4, none⟩ = some (.bool a1_4) := (kC_ BK208.out 4).trans rfl; have hfz26_0 := kF_ BK208.out 0; have hfz26_1 := kF_ BK208.out 1; have hfz26_2 := kF_ BK208.out 2; have hfz26_3 := kF_ BK208.out 3; have hfz26_4 := kF_ BK208.out 4) | ((with_reducible refine gate_callee (f := 63) rfl ?_); refine goesL_ (some 9) rfl rfl Try.func63 (by kernel_rfl) rfl #[.slice A0_0 l0_0.length c0_0, .slice A1_0 l1_0.length c1_0] rfl (by (try simp only [mA_, mC_, mN_]); first | done | rfl | (simp only [lD_, lT_]; rfl)) ?_; (with_reducible refine (laws_eqByteSS.calls k _ _ l0_0 _ _ l1_0 true _ ?side1 ?side2 ?side3 ?side4 A3.out).mono ?_); (case side1 => repeat (first | exact (Kd.C_below HR0_0.out HB.out) | (with_reducible refine cA_ ?_ _) | (with_reducible refine cN_ ?_ _) | (with_reducible refine cD_ ?_))); (case side2 => exact HC0_0.out); (case side3 => repeat (first | exact (Kd.C_below HR1_0.out HB.out) | (with_reducible refine cA_ ?_ _) | (with_reducible refine cN_ ?_ _) | (with_reducible refine cD_ ?_))); (case side4 => exact HC1_0.out); rintro e w' ⟨rfl, ⟨nd, rfl⟩⟩; refine ⟨_, rfl, ?_⟩) | ((with_reducible refine gate_callee (f := 64) rfl ?_); refine goesL_ (some 15) rfl rfl Try.func64 (by kernel_rfl) rfl #[.slice A0_1 l0_1.length c0_1, .slice A1_1 l1_1.length c1_1] rfl (by (try simp only [mA_, mC_, mN_]); first | done | rfl | (simp only [lD_, lT_]; rfl)) ?_; (with_reducible refine (laws_eqWriteS.calls k _ _ l0_1 _ _ l1_1 true _ ?side1 ?side2 ?side3 ?side4 A5.out).mono ?_); (case side1 => repeat (first | exact (Kd.C_below HR0_1.out (by repeat (first | (with_reducible first | exact HB.out | apply bA_ | apply bN_ | apply bD_ | refine bE_ ?_ GE207.out | refine bE_ ?_ GE208.out) | exact HB.out))) | (with_reducible refine cA_ ?_ _) | (with_reducible refine cN_ ?_ _) | (with_reducible refine cD_ ?_))); (case side2 => exact HC0_1.out); (case side3 => repeat (first | exact (Kd.C_below HR1_1.out (by repeat (first | (with_reducible first | exact HB.out | apply bA_ | apply bN_ | apply bD_ | refine bE_ ?_ GE207.out | refine bE_ ?_ GE208.out) | exact HB.out))) | (with_reducible refine cA_ ?_ _) | (with_reducible refine cN_ ?_ _) | (with_reducible refine cD_ ?_))); (case side4 => exact HC1_1.out); rintro e w27 ⟨rfl, hb⟩; refine ⟨_, rfl, ?_⟩; have n0_ := aM_ (blk_below (g := gb207) (o := .cells #[.slice A0_0 l0_0.length c0_0, .slice A0_1 l0_1.length c0_1, .int .i64 a0_2, .slice A0_3 l0_3.length c0_3, .bool a0_4] 32 (0, 0)) (by (with_reducible repeat (first | refine kN_ ?_ _ | refine kD_ ?_ | refine kA_ ?_ _)); exact BK207.out) hb); have n1_ := aM_ (blk_below (g := gb208) (o := .cells #[.slice A1_0 l1_0.length c1_0, .slice A1_1 l1_1.length c1_1, .int .i64 a1_2, .slice A1_3 l1_3.length c1_3, .bool a1_4] 32 (0, 0)) (by (with_reducible repeat (first | refine kN_ ?_ _ | refine kD_ ?_ | refine kA_ ?_ _)); exact BK208.out) hb); have n2_ := aM_ (bT_ (by repeat (first | (with_reducible first | exact HB.out | apply bA_ | apply bN_ | apply bD_ | refine bE_ ?_ GE207.out | refine bE_ ?_ GE208.out) | exact HB.out)) hb); clear BK207; clear BK208; clear HB; have BK207 := n0_; have BK208 := n1_; have HB := n2_; clear n0_ n1_ n2_; (try clear hb); (try clear hb2); (try clear hk); (try clear hi); have hcz28_0 : w27.cell? ⟨gb207, 0, none⟩ = some (.slice A0_0 l0_0.length c0_0) := (kC_ BK207.out 0).trans rfl; have hcz28_1 : w27.cell? ⟨gb207, 1, none⟩ = some (.slice A0_1 l0_1.length c0_1) := (kC_ BK207.out 1).trans rfl; have hcz28_2 : w27.cell? ⟨gb207, 2, none⟩ = some (.int .i64 a0_2) := (kC_ BK207.out 2).trans rfl; have hcz28_3 : w27.cell? ⟨gb207, 3, none⟩ = some (.slice A0_3 l0_3.length c0_3) := (kC_ BK207.out 3).trans rfl; have hcz28_4 : w27.cell? ⟨gb207, 4, none⟩ = some (.bool a0_4) := (kC_ BK207.out 4).trans rfl; have hfz28_0 := kF_ BK207.out 0; have hfz28_1 := kF_ BK207.out 1; have hfz28_2 := kF_ BK207.out 2; have hfz28_3 := kF_ BK207.out 3; have hfz28_4 := kF_ BK207.out 4; have hcz29_0 : w27.cell? ⟨gb208, 0, none⟩ = some (.slice A1_0 l1_0.length c1_0) := (kC_ BK208.out 0).trans rfl; have hcz29_1 : w27.cell? ⟨gb208, 1, none⟩ = some (.slice A1_1 l1_1.length c1_1) := (kC_ BK208.out 1).trans rfl; have hcz29_2 : w27.cell? ⟨gb208, 2, none⟩ = some (.int .i64 a1_2) := (kC_ BK208.out 2).trans rfl; have hcz29_3 : w27.cell? ⟨gb208, 3, none⟩ = some (.slice A1_3 l1_3.length c1_3) := (kC_ BK208.out 3).trans rfl; have hcz29_4 : w27.cell? ⟨gb208, 4, none⟩ = some (.bool a1_4) := (kC_ BK208.out 4).trans rfl; have hfz29_0 := kF_ BK208.out 0; have hfz29_1 := kF_ BK208.out 1; have hfz29_2 := kF_ BK208.out 2; have hfz29_3 := kF_ BK208.out 3; have hfz29_4 := kF_ BK208.out 4) | ((with_reducible refine gate_callee (f := 23) rfl ?_); refine goesL_ (some 26) rfl rfl Try.func23 (by kernel_rfl) rfl #[.slice A0_3 l0_3.length c0_3, .slice A1_3 l1_3.length c1_3] rfl (by (try simp only [mA_, mC_, mN_]); first | done | rfl | (simp only [lD_, lT_]; rfl)) ?_; (with_reducible refine (laws_eqFaultS.calls k _ _ l0_3 _ _ l1_3 true _ ?side1 ?side2 ?side3 ?side4 A8.out).mono ?_); (case side1 => repeat (first | exact (Kd.C_below HR0_3.out HB.out) | (with_reducible refine cA_ ?_ _) | (with_reducible refine cN_ ?_ _) | (with_reducible refine cD_ ?_))); (case side2 => exact HC0_3.out); (case side3 => repeat (first | exact (Kd.C_below HR1_3.out HB.out) | (with_reducible refine cA_ ?_ _) | (with_reducible refine cN_ ?_ _) | (with_reducible refine cD_ ?_))); (case side4 => exact HC1_3.out); rintro e w30 ⟨rfl, hb⟩; refine ⟨_, rfl, ?_⟩; have n0_ := aM_ (blk_below (g := gb207) (o := .cells #[.slice A0_0 l0_0.length c0_0, .slice A0_1 l0_1.length c0_1, .int .i64 a0_2, .slice A0_3 l0_3.length c0_3, .bool a0_4] 32 (0, 0)) (by (with_reducible repeat (first | refine kN_ ?_ _ | refine kD_ ?_ | refine kA_ ?_ _)); exact BK207.out) hb); have n1_ := aM_ (blk_below (g := gb208) (o := .cells #[.slice A1_0 l1_0.length c1_0, .slice A1_1 l1_1.length c1_1, .int .i64 a1_2, .slice A1_3 l1_3.length c1_3, .bool a1_4] 32 (0, 0)) (by (with_reducible repeat (first | refine kN_ ?_ _ | refine kD_ ?_ | refine kA_ ?_ _)); exact BK208.out) hb); have n2_ := aM_ (bT_ (by repeat (first | (with_reducible first | exact HB.out | apply bA_ | apply bN_ | apply bD_ | refine bE_ ?_ GE207.out | refine bE_ ?_ GE208.out) | exact HB.out)) hb); clear BK207; clear BK208; clear HB; have BK207 := n0_; have BK208 := n1_; have HB := n2_; clear n0_ n1_ n2_; (try clear hb); (try clear hb2); (try clear hk); (try clear hi); have hcz31_0 : w30.cell? ⟨gb207, 0, none⟩ = some (.slice A0_0 l0_0.length c0_0) := (kC_ BK207.out 0).trans rfl; have hcz31_1 : w30.cell? ⟨gb207, 1, none⟩ = some (.slice A0_1 l0_1.length c0_1) := (kC_ BK207.out 1).trans rfl; have hcz31_2 : w30.cell? ⟨gb207, 2, none⟩ = some (.int .i64 a0_2) := (kC_ BK207.out 2).trans rfl; have hcz31_3 : w30.cell? ⟨gb207, 3, none⟩ = some (.slice A0_3 l0_3.length c0_3) := (kC_ BK207.out 3).trans rfl; have hcz31_4 : w30.cell? ⟨gb207, 4, none⟩ = some (.bool a0_4) := (kC_ BK207.out 4).trans rfl; have hfz31_0 := kF_ BK207.out 0; have hfz31_1 := kF_ BK207.out 1; have hfz31_2 := kF_ BK207.out 2; have hfz31_3 := kF_ BK207.out 3; have hfz31_4 := kF_ BK207.out 4; have hcz32_0 : w30.cell? ⟨gb208, 0, none⟩ = some (.slice A1_0 l1_0.length c1_0) := (kC_ BK208.out 0).trans rfl; have hcz32_1 : w30.cell? ⟨gb208, 1, none⟩ = some (.slice A1_1 l1_1.length c1_1) := (kC_ BK208.out 1).trans rfl; have hcz32_2 : w30.cell? ⟨gb208, 2, none⟩ = some (.int .i64 a1_2) := (kC_ BK208.out 2).trans rfl; have hcz32_3 : w30.cell? ⟨gb208, 3, none⟩ = some (.slice A1_3 l1_3.length c1_3) := (kC_ BK208.out 3).trans rfl; have hcz32_4 : w30.cell? ⟨gb208, 4, none⟩ = some (.bool a1_4) := (kC_ BK208.out 4).trans rfl; have hfz32_0 := kF_ BK208.out 0; have hfz32_1 := kF_ BK208.out 1; have hfz32_2 := kF_ BK208.out 2; have hfz32_3 := kF_ BK208.out 3; have hfz32_4 := kF_ BK208.out 4))
      go_ret
      exact ⟨by first | rfl | (simp [errW_none, errW_some] <;> rfl) | (simp [*, errW_none, errW_some] <;> rfl), by repeat (first | (with_reducible first | exact HB.out | apply bA_ | apply bN_ | apply bD_ | refine bE_ ?_ GE207.out | refine bE_ ?_ GE208.out) | exact HB.out)⟩
    ·replace c9 := Bool.eq_false_iff.mpr c9
     subst c9
     have H1 : (some false) = some r := by rw [if_neg (show ¬ (false = true) by decide)] at H; exact H
     clear H
     have H := H1
     clear H1
     obtain rfl := Option.some.inj H
     go_enter Try.func18, Try.ntmps18
     go_wp2_with (first | ((with_reducible refine gate_dst (N := 2) rfl ?_); refine box_event ?hg (N := 2) ?hd (cs := #[.slice A0_0 l0_0.length c0_0, .slice A0_1 l0_1.length c0_1, .int .i64 a0_2, .slice A0_3 l0_3.length c0_3, .bool a0_4]) (t := 32) ?hr ?_; (case hd => rfl); (case hg => rfl); (case hr => first | (go_simp; done) | (go_simp; rfl)); intro gb207 hg w33 hbox hb; have n0_ := aM_ (bT_ (by repeat (first | (with_reducible first | exact HB.out | apply bA_ | apply bN_ | apply bD_) | exact HB.out)) hb); have n1_ := aM_ (hbox); have n2_ := aM_ ((by rw [hg]; exact (bS_ (by repeat (first | (with_reducible first | exact HB.out | apply bA_ | apply bN_ | apply bD_) | exact HB.out))) : w.heap.size ≤ gb207)); have n3_ := aM_ ((by rw [hg]; exact (bS_ (by repeat (first | (with_reducible first | exact HB.out | apply bA_ | apply bN_ | apply bD_) | exact HB.out))) : w.heap.size ≤ gb207)); clear HB; have HB := n0_; have BK207 := n1_; have GW207 := n2_; have GE207 := n3_; clear n0_ n1_ n2_ n3_; clear hb hbox hg) | ((with_reducible refine gate_dst (N := 3) rfl ?_); refine box_event ?hg (N := 3) ?hd (cs := #[.slice A1_0 l1_0.length c1_0, .slice A1_1 l1_1.length c1_1, .int .i64 a1_2, .slice A1_3 l1_3.length c1_3, .bool a1_4]) (t := 32) ?hr ?_; (case hd => rfl); (case hg => rfl); (case hr => first | (go_simp; done) | (go_simp; rfl)); intro gb208 hg w34 hbox hb; have n0_ := aM_ (blk_below (g := gb207) (o := .cells #[.slice A0_0 l0_0.length c0_0, .slice A0_1 l0_1.length c0_1, .int .i64 a0_2, .slice A0_3 l0_3.length c0_3, .bool a0_4] 32 (0, 0)) (by (with_reducible repeat (first | refine kN_ ?_ _ | refine kD_ ?_ | refine kA_ ?_ _)); exact BK207.out) hb); have n1_ := aM_ (bT_ (by repeat (first | (with_reducible first | exact HB.out | apply bA_ | apply bN_ | apply bD_ | refine bE_ ?_ GE207.out) | exact HB.out)) hb); have n2_ := aM_ (hbox); have n3_ := aM_ ((by rw [hg]; exact (bS_ (by repeat (first | (with_reducible first | exact HB.out | apply bA_ | apply bN_ | apply bD_ | refine bE_ ?_ GE207.out) | exact HB.out))) : w.heap.size ≤ gb208)); have n4_ := aM_ ((by rw [hg]; exact (bS_ (by repeat (first | (with_reducible first | exact HB.out | apply bA_ | apply bN_ | apply bD_ | refine bE_ ?_ GE207.out) | exact HB.out))) : w.heap.size ≤ gb208)); have n5_ := aM_ ((by rw [hg]; exact Nat.ne_of_lt (blk_lt (g := gb207) (o := .cells #[.slice A0_0 l0_0.length c0_0, .slice A0_1 l0_1.length c0_1, .int .i64 a0_2, .slice A0_3 l0_3.length c0_3, .bool a0_4] 32 (0, 0)) (by (with_reducible repeat (first | refine kN_ ?_ _ | refine kD_ ?_ | refine kA_ ?_ _)); exact BK207.out)) : gb207 ≠ gb208)); have n6_ := aM_ ((by rw [hg]; exact Nat.ne_of_gt (blk_lt (g := gb207) (o := .cells #[.slice A0_0 l0_0.length c0_0, .slice A0_1 l0_1.length c0_1, .int .i64 a0_2, .slice A0_3 l0_3.length c0_3, .bool a0_4] 32 (0, 0)) (by (with_reducible repeat (first | refine kN_ ?_ _ | refine kD_ ?_ | refine kA_ ?_ _)); exact BK207.out)) : gb208 ≠ gb207)); clear BK207; clear HB; have BK207 := n0_; have HB := n1_; have BK208 := n2_; have GW208 := n3_; have GE208 := n4_; have NB207_208 := n5_; have NB208_207 := n6_; clear n0_ n1_ n2_ n3_ n4_ n5_ n6_; clear hb hbox hg; have hnb35 := NB207_208.out; have hnc35 := NB208_207.out; have hcz36_0 : w34.cell? ⟨gb207, 0, none⟩ = some (.slice A0_0 l0_0.length c0_0) := (kC_ BK207.out 0).trans rfl; have hcz36_1 : w34.cell? ⟨gb207, 1, none⟩ = some (.slice A0_1 l0_1.length c0_1) := (kC_ BK207.out 1).trans rfl; have hcz36_2 : w34.cell? ⟨gb207, 2, none⟩ = some (.int .i64 a0_2) := (kC_ BK207.out 2).trans rfl; have hcz36_3 : w34.cell? ⟨gb207, 3, none⟩ = some (.slice A0_3 l0_3.length c0_3) := (kC_ BK207.out 3).trans rfl; have hcz36_4 : w34.cell? ⟨gb207, 4, none⟩ = some (.bool a0_4) := (kC_ BK207.out 4).trans rfl; have hfz36_0 := kF_ BK207.out 0; have hfz36_1 := kF_ BK207.out 1; have hfz36_2 := kF_ BK207.out 2; have hfz36_3 := kF_ BK207.out 3; have hfz36_4 := kF_ BK207.out 4; have hcz37_0 : w34.cell? ⟨gb208, 0, none⟩ = some (.slice A1_0 l1_0.length c1_0) := (kC_ BK208.out 0).trans rfl; have hcz37_1 : w34.cell? ⟨gb208, 1, none⟩ = some (.slice A1_1 l1_1.length c1_1) := (kC_ BK208.out 1).trans rfl; have hcz37_2 : w34.cell? ⟨gb208, 2, none⟩ = some (.int .i64 a1_2) := (kC_ BK208.out 2).trans rfl; have hcz37_3 : w34.cell? ⟨gb208, 3, none⟩ = some (.slice A1_3 l1_3.length c1_3) := (kC_ BK208.out 3).trans rfl; have hcz37_4 : w34.cell? ⟨gb208, 4, none⟩ = some (.bool a1_4) := (kC_ BK208.out 4).trans rfl; have hfz37_0 := kF_ BK208.out 0; have hfz37_1 := kF_ BK208.out 1; have hfz37_2 := kF_ BK208.out 2; have hfz37_3 := kF_ BK208.out 3; have hfz37_4 := kF_ BK208.out 4) | ((with_reducible refine gate_callee (f := 63) rfl ?_); refine goesL_ (some 9) rfl rfl Try.func63 (by kernel_rfl) rfl #[.slice A0_0 l0_0.length c0_0, .slice A1_0 l1_0.length c1_0] rfl (by (try simp only [mA_, mC_, mN_]); first | done | rfl | (simp only [lD_, lT_]; rfl)) ?_; (with_reducible refine (laws_eqByteSS.calls k _ _ l0_0 _ _ l1_0 true _ ?side1 ?side2 ?side3 ?side4 A3.out).mono ?_); (case side1 => repeat (first | exact (Kd.C_below HR0_0.out HB.out) | (with_reducible refine cA_ ?_ _) | (with_reducible refine cN_ ?_ _) | (with_reducible refine cD_ ?_))); (case side2 => exact HC0_0.out); (case side3 => repeat (first | exact (Kd.C_below HR1_0.out HB.out) | (with_reducible refine cA_ ?_ _) | (with_reducible refine cN_ ?_ _) | (with_reducible refine cD_ ?_))); (case side4 => exact HC1_0.out); rintro e w' ⟨rfl, ⟨nd, rfl⟩⟩; refine ⟨_, rfl, ?_⟩) | ((with_reducible refine gate_callee (f := 64) rfl ?_); refine goesL_ (some 15) rfl rfl Try.func64 (by kernel_rfl) rfl #[.slice A0_1 l0_1.length c0_1, .slice A1_1 l1_1.length c1_1] rfl (by (try simp only [mA_, mC_, mN_]); first | done | rfl | (simp only [lD_, lT_]; rfl)) ?_; (with_reducible refine (laws_eqWriteS.calls k _ _ l0_1 _ _ l1_1 true _ ?side1 ?side2 ?side3 ?side4 A5.out).mono ?_); (case side1 => repeat (first | exact (Kd.C_below HR0_1.out (by repeat (first | (with_reducible first | exact HB.out | apply bA_ | apply bN_ | apply bD_ | refine bE_ ?_ GE207.out | refine bE_ ?_ GE208.out) | exact HB.out))) | (with_reducible refine cA_ ?_ _) | (with_reducible refine cN_ ?_ _) | (with_reducible refine cD_ ?_))); (case side2 => exact HC0_1.out); (case side3 => repeat (first | exact (Kd.C_below HR1_1.out (by repeat (first | (with_reducible first | exact HB.out | apply bA_ | apply bN_ | apply bD_ | refine bE_ ?_ GE207.out | refine bE_ ?_ GE208.out) | exact HB.out))) | (with_reducible refine cA_ ?_ _) | (with_reducible refine cN_ ?_ _) | (with_reducible refine cD_ ?_))); (case side4 => exact HC1_1.out); rintro e w38 ⟨rfl, hb⟩; refine ⟨_, rfl, ?_⟩; have n0_ := aM_ (blk_below (g := gb207) (o := .cells #[.slice A0_0 l0_0.length c0_0, .slice A0_1 l0_1.length c0_1, .int .i64 a0_2, .slice A0_3 l0_3.length c0_3, .bool a0_4] 32 (0, 0)) (by (with_reducible repeat (first | refine kN_ ?_ _ | refine kD_ ?_ | refine kA_ ?_ _)); exact BK207.out) hb); have n1_ := aM_ (blk_below (g := gb208) (o := .cells #[.slice A1_0 l1_0.length c1_0, .slice A1_1 l1_1.length c1_1, .int .i64 a1_2, .slice A1_3 l1_3.length c1_3, .bool a1_4] 32 (0, 0)) (by (with_reducible repeat (first | refine kN_ ?_ _ | refine kD_ ?_ | refine kA_ ?_ _)); exact BK208.out) hb); have n2_ := aM_ (bT_ (by repeat (first | (with_reducible first | exact HB.out | apply bA_ | apply bN_ | apply bD_ | refine bE_ ?_ GE207.out | refine bE_ ?_ GE208.out) | exact HB.out)) hb); clear BK207; clear BK208; clear HB; have BK207 := n0_; have BK208 := n1_; have HB := n2_; clear n0_ n1_ n2_; (try clear hb); (try clear hb2); (try clear hk); (try clear hi); have hcz39_0 : w38.cell? ⟨gb207, 0, none⟩ = some (.slice A0_0 l0_0.length c0_0) := (kC_ BK207.out 0).trans rfl; have hcz39_1 : w38.cell? ⟨gb207, 1, none⟩ = some (.slice A0_1 l0_1.length c0_1) := (kC_ BK207.out 1).trans rfl; have hcz39_2 : w38.cell? ⟨gb207, 2, none⟩ = some (.int .i64 a0_2) := (kC_ BK207.out 2).trans rfl; have hcz39_3 : w38.cell? ⟨gb207, 3, none⟩ = some (.slice A0_3 l0_3.length c0_3) := (kC_ BK207.out 3).trans rfl; have hcz39_4 : w38.cell? ⟨gb207, 4, none⟩ = some (.bool a0_4) := (kC_ BK207.out 4).trans rfl; have hfz39_0 := kF_ BK207.out 0; have hfz39_1 := kF_ BK207.out 1; have hfz39_2 := kF_ BK207.out 2; have hfz39_3 := kF_ BK207.out 3; have hfz39_4 := kF_ BK207.out 4; have hcz40_0 : w38.cell? ⟨gb208, 0, none⟩ = some (.slice A1_0 l1_0.length c1_0) := (kC_ BK208.out 0).trans rfl; have hcz40_1 : w38.cell? ⟨gb208, 1, none⟩ = some (.slice A1_1 l1_1.length c1_1) := (kC_ BK208.out 1).trans rfl; have hcz40_2 : w38.cell? ⟨gb208, 2, none⟩ = some (.int .i64 a1_2) := (kC_ BK208.out 2).trans rfl; have hcz40_3 : w38.cell? ⟨gb208, 3, none⟩ = some (.slice A1_3 l1_3.length c1_3) := (kC_ BK208.out 3).trans rfl; have hcz40_4 : w38.cell? ⟨gb208, 4, none⟩ = some (.bool a1_4) := (kC_ BK208.out 4).trans rfl; have hfz40_0 := kF_ BK208.out 0; have hfz40_1 := kF_ BK208.out 1; have hfz40_2 := kF_ BK208.out 2; have hfz40_3 := kF_ BK208.out 3; have hfz40_4 := kF_ BK208.out 4) | ((with_reducible refine gate_callee (f := 23) rfl ?_); refine goesL_ (some 26) rfl rfl Try.func23 (by kernel_rfl) rfl #[.slice A0_3 l0_3.length c0_3, .slice A1_3 l1_3.length c1_3] rfl (by (try simp only [mA_, mC_, mN_]); first | done | rfl | (simp only [lD_, lT_]; rfl)) ?_; (with_reducible refine (laws_eqFaultS.calls k _ _ l0_3 _ _ l1_3 false _ ?side1 ?side2 ?side3 ?side4 A8.out).mono ?_); (case side1 => repeat (first | exact (Kd.C_below HR0_3.out HB.out) | (with_reducible refine cA_ ?_ _) | (with_reducible refine cN_ ?_ _) | (with_reducible refine cD_ ?_))); (case side2 => exact HC0_3.out); (case side3 => repeat (first | exact (Kd.C_below HR1_3.out HB.out) | (with_reducible refine cA_ ?_ _) | (with_reducible refine cN_ ?_ _) | (with_reducible refine cD_ ?_))); (case side4 => exact HC1_3.out); rintro e w41 ⟨rfl, hb⟩; refine ⟨_, rfl, ?_⟩; have n0_ := aM_ (blk_below (g := gb207) (o := .cells #[.slice A0_0 l0_0.length c0_0, .slice A0_1 l0_1.length c0_1, .int .i64 a0_2, .slice A0_3 l0_3.length c0_3, .bool a0_4] 32 (0, 0)) (by (with_reducible repeat (first | refine kN_ ?_ _ | refine kD_ ?_ | refine kA_ ?_ _)); exact BK207.out) hb); have n1_ := aM_ (blk_below (g := gb208) (o := .cells #[.slice A1_0 l1_0.length c1_0, .slice A1_1 l1_1.length c1_1, .int .i64 a1_2, .slice A1_3 l1_3.length c1_3, .bool a1_4] 32 (0, 0)) (by (with_reducible repeat (first | refine kN_ ?_ _ | refine kD_ ?_ | refine kA_ ?_ _)); exact BK208.out) hb); have n2_ := aM_ (bT_ (by repeat (first | (with_reducible first | exact HB.out | apply bA_ | apply bN_ | apply bD_ | refine bE_ ?_ GE207.out | refine bE_ ?_ GE208.out) | exact HB.out)) hb); clear BK207; clear BK208; clear HB; have BK207 := n0_; have BK208 := n1_; have HB := n2_; clear n0_ n1_ n2_; (try clear hb); (try clear hb2); (try clear hk); (try clear hi)))
     go_ret
     exact ⟨by first | rfl | (simp [errW_none, errW_some] <;> rfl) | (simp [*, errW_none, errW_some] <;> rfl), by repeat (first | (with_reducible first | exact HB.out | apply bA_ | apply bN_ | apply bD_ | refine bE_ ?_ GE207.out | refine bE_ ?_ GE208.out) | exact HB.out)⟩
   ·rw [if_neg c7] at H
    have c7b0 : (a0_2 == a1_2) = false := beq_eq_false_iff_ne.mpr c7
    have c7b1 : (a0_2 != a1_2) = true := bne_iff_ne.mpr c7
    obtain rfl := Option.some.inj H
    go_enter Try.func18, Try.ntmps18
    go_wp2_with (first | ((with_reducible refine gate_dst (N := 2) rfl ?_); refine box_event ?hg (N := 2) ?hd (cs := #[.slice A0_0 l0_0.length c0_0, .slice A0_1 l0_1.length c0_1, .int .i64 a0_2, .slice A0_3 l0_3.length c0_3, .bool a0_4]) (t := 32) ?hr ?_; (case hd => rfl); (case hg => rfl); (case hr => first | (go_simp; done) | (go_simp; rfl)); intro gb207 hg w42 hbox hb; have n0_ := aM_ (bT_ (by repeat (first | (with_reducible first | exact HB.out | apply bA_ | apply bN_ | apply bD_) | exact HB.out)) hb); have n1_ := aM_ (hbox); have n2_ := aM_ ((by rw [hg]; exact (bS_ (by repeat (first | (with_reducible first | exact HB.out | apply bA_ | apply bN_ | apply bD_) | exact HB.out))) : w.heap.size ≤ gb207)); have n3_ := aM_ ((by rw [hg]; exact (bS_ (by repeat (first | (with_reducible first | exact HB.out | apply bA_ | apply bN_ | apply bD_) | exact HB.out))) : w.heap.size ≤ gb207)); clear HB; have HB := n0_; have BK207 := n1_; have GW207 := n2_; have GE207 := n3_; clear n0_ n1_ n2_ n3_; clear hb hbox hg) | ((with_reducible refine gate_dst (N := 3) rfl ?_); refine box_event ?hg (N := 3) ?hd (cs := #[.slice A1_0 l1_0.length c1_0, .slice A1_1 l1_1.length c1_1, .int .i64 a1_2, .slice A1_3 l1_3.length c1_3, .bool a1_4]) (t := 32) ?hr ?_; (case hd => rfl); (case hg => rfl); (case hr => first | (go_simp; done) | (go_simp; rfl)); intro gb208 hg w43 hbox hb; have n0_ := aM_ (blk_below (g := gb207) (o := .cells #[.slice A0_0 l0_0.length c0_0, .slice A0_1 l0_1.length c0_1, .int .i64 a0_2, .slice A0_3 l0_3.length c0_3, .bool a0_4] 32 (0, 0)) (by (with_reducible repeat (first | refine kN_ ?_ _ | refine kD_ ?_ | refine kA_ ?_ _)); exact BK207.out) hb); have n1_ := aM_ (bT_ (by repeat (first | (with_reducible first | exact HB.out | apply bA_ | apply bN_ | apply bD_ | refine bE_ ?_ GE207.out) | exact HB.out)) hb); have n2_ := aM_ (hbox); have n3_ := aM_ ((by rw [hg]; exact (bS_ (by repeat (first | (with_reducible first | exact HB.out | apply bA_ | apply bN_ | apply bD_ | refine bE_ ?_ GE207.out) | exact HB.out))) : w.heap.size ≤ gb208)); have n4_ := aM_ ((by rw [hg]; exact (bS_ (by repeat (first | (with_reducible first | exact HB.out | apply bA_ | apply bN_ | apply bD_ | refine bE_ ?_ GE207.out) | exact HB.out))) : w.heap.size ≤ gb208)); have n5_ := aM_ ((by rw [hg]; exact Nat.ne_of_lt (blk_lt (g := gb207) (o := .cells #[.slice A0_0 l0_0.length c0_0, .slice A0_1 l0_1.length c0_1, .int .i64 a0_2, .slice A0_3 l0_3.length c0_3, .bool a0_4] 32 (0, 0)) (by (with_reducible repeat (first | refine kN_ ?_ _ | refine kD_ ?_ | refine kA_ ?_ _)); exact BK207.out)) : gb207 ≠ gb208)); have n6_ := aM_ ((by rw [hg]; exact Nat.ne_of_gt (blk_lt (g := gb207) (o := .cells #[.slice A0_0 l0_0.length c0_0, .slice A0_1 l0_1.length c0_1, .int .i64 a0_2, .slice A0_3 l0_3.length c0_3, .bool a0_4] 32 (0, 0)) (by (with_reducible repeat (first | refine kN_ ?_ _ | refine kD_ ?_ | refine kA_ ?_ _)); exact BK207.out)) : gb208 ≠ gb207)); clear BK207; clear HB; have BK207 := n0_; have HB := n1_; have BK208 := n2_; have GW208 := n3_; have GE208 := n4_; have NB207_208 := n5_; have NB208_207 := n6_; clear n0_ n1_ n2_ n3_ n4_ n5_ n6_; clear hb hbox hg; have hnb44 := NB207_208.out; have hnc44 := NB208_207.out; have hcz45_0 : w43.cell? ⟨gb207, 0, none⟩ = some (.slice A0_0 l0_0.length c0_0) := (kC_ BK207.out 0).trans rfl; have hcz45_1 : w43.cell? ⟨gb207, 1, none⟩ = some (.slice A0_1 l0_1.length c0_1) := (kC_ BK207.out 1).trans rfl; have hcz45_2 : w43.cell? ⟨gb207, 2, none⟩ = some (.int .i64 a0_2) := (kC_ BK207.out 2).trans rfl; have hcz45_3 : w43.cell? ⟨gb207, 3, none⟩ = some (.slice A0_3 l0_3.length c0_3) := (kC_ BK207.out 3).trans rfl; have hcz45_4 : w43.cell? ⟨gb207, 4, none⟩ = some (.bool a0_4) := (kC_ BK207.out 4).trans rfl; have hfz45_0 := kF_ BK207.out 0; have hfz45_1 := kF_ BK207.out 1; have hfz45_2 := kF_ BK207.out 2; have hfz45_3 := kF_ BK207.out 3; have hfz45_4 := kF_ BK207.out 4; have hcz46_0 : w43.cell? ⟨gb208, 0, none⟩ = some (.slice A1_0 l1_0.length c1_0) := (kC_ BK208.out 0).trans rfl; have hcz46_1 : w43.cell? ⟨gb208, 1, none⟩ = some (.slice A1_1 l1_1.length c1_1) := (kC_ BK208.out 1).trans rfl; have hcz46_2 : w43.cell? ⟨gb208, 2, none⟩ = some (.int .i64 a1_2) := (kC_ BK208.out 2).trans rfl; have hcz46_3 : w43.cell? ⟨gb208, 3, none⟩ = some (.slice A1_3 l1_3.length c1_3) := (kC_ BK208.out 3).trans rfl; have hcz46_4 : w43.cell? ⟨gb208, 4, none⟩ = some (.bool a1_4) := (kC_ BK208.out 4).trans rfl; have hfz46_0 := kF_ BK208.out 0; have hfz46_1 := kF_ BK208.out 1; have hfz46_2 := kF_ BK208.out 2; have hfz46_3 := kF_ BK208.out 3; have hfz46_4 := kF_ BK208.out 4) | ((with_reducible refine gate_callee (f := 63) rfl ?_); refine goesL_ (some 9) rfl rfl Try.func63 (by kernel_rfl) rfl #[.slice A0_0 l0_0.length c0_0, .slice A1_0 l1_0.length c1_0] rfl (by (try simp only [mA_, mC_, mN_]); first | done | rfl | (simp only [lD_, lT_]; rfl)) ?_; (with_reducible refine (laws_eqByteSS.calls k _ _ l0_0 _ _ l1_0 true _ ?side1 ?side2 ?side3 ?side4 A3.out).mono ?_); (case side1 => repeat (first | exact (Kd.C_below HR0_0.out HB.out) | (with_reducible refine cA_ ?_ _) | (with_reducible refine cN_ ?_ _) | (with_reducible refine cD_ ?_))); (case side2 => exact HC0_0.out); (case side3 => repeat (first | exact (Kd.C_below HR1_0.out HB.out) | (with_reducible refine cA_ ?_ _) | (with_reducible refine cN_ ?_ _) | (with_reducible refine cD_ ?_))); (case side4 => exact HC1_0.out); rintro e w' ⟨rfl, ⟨nd, rfl⟩⟩; refine ⟨_, rfl, ?_⟩) | ((with_reducible refine gate_callee (f := 64) rfl ?_); refine goesL_ (some 15) rfl rfl Try.func64 (by kernel_rfl) rfl #[.slice A0_1 l0_1.length c0_1, .slice A1_1 l1_1.length c1_1] rfl (by (try simp only [mA_, mC_, mN_]); first | done | rfl | (simp only [lD_, lT_]; rfl)) ?_; (with_reducible refine (laws_eqWriteS.calls k _ _ l0_1 _ _ l1_1 true _ ?side1 ?side2 ?side3 ?side4 A5.out).mono ?_); (case side1 => repeat (first | exact (Kd.C_below HR0_1.out (by repeat (first | (with_reducible first | exact HB.out | apply bA_ | apply bN_ | apply bD_ | refine bE_ ?_ GE207.out | refine bE_ ?_ GE208.out) | exact HB.out))) | (with_reducible refine cA_ ?_ _) | (with_reducible refine cN_ ?_ _) | (with_reducible refine cD_ ?_))); (case side2 => exact HC0_1.out); (case side3 => repeat (first | exact (Kd.C_below HR1_1.out (by repeat (first | (with_reducible first | exact HB.out | apply bA_ | apply bN_ | apply bD_ | refine bE_ ?_ GE207.out | refine bE_ ?_ GE208.out) | exact HB.out))) | (with_reducible refine cA_ ?_ _) | (with_reducible refine cN_ ?_ _) | (with_reducible refine cD_ ?_))); (case side4 => exact HC1_1.out); rintro e w47 ⟨rfl, hb⟩; refine ⟨_, rfl, ?_⟩; have n0_ := aM_ (blk_below (g := gb207) (o := .cells #[.slice A0_0 l0_0.length c0_0, .slice A0_1 l0_1.length c0_1, .int .i64 a0_2, .slice A0_3 l0_3.length c0_3, .bool a0_4] 32 (0, 0)) (by (with_reducible repeat (first | refine kN_ ?_ _ | refine kD_ ?_ | refine kA_ ?_ _)); exact BK207.out) hb); have n1_ := aM_ (blk_below (g := gb208) (o := .cells #[.slice A1_0 l1_0.length c1_0, .slice A1_1 l1_1.length c1_1, .int .i64 a1_2, .slice A1_3 l1_3.length c1_3, .bool a1_4] 32 (0, 0)) (by (with_reducible repeat (first | refine kN_ ?_ _ | refine kD_ ?_ | refine kA_ ?_ _)); exact BK208.out) hb); have n2_ := aM_ (bT_ (by repeat (first | (with_reducible first | exact HB.out | apply bA_ | apply bN_ | apply bD_ | refine bE_ ?_ GE207.out | refine bE_ ?_ GE208.out) | exact HB.out)) hb); clear BK207; clear BK208; clear HB; have BK207 := n0_; have BK208 := n1_; have HB := n2_; clear n0_ n1_ n2_; (try clear hb); (try clear hb2); (try clear hk); (try clear hi); have hcz48_0 : w47.cell? ⟨gb207, 0, none⟩ = some (.slice A0_0 l0_0.length c0_0) := (kC_ BK207.out 0).trans rfl; have hcz48_1 : w47.cell? ⟨gb207, 1, none⟩ = some (.slice A0_1 l0_1.length c0_1) := (kC_ BK207.out 1).trans rfl; have hcz48_2 : w47.cell? ⟨gb207, 2, none⟩ = some (.int .i64 a0_2) := (kC_ BK207.out 2).trans rfl; have hcz48_3 : w47.cell? ⟨gb207, 3, none⟩ = some (.slice A0_3 l0_3.length c0_3) := (kC_ BK207.out 3).trans rfl; have hcz48_4 : w47.cell? ⟨gb207, 4, none⟩ = some (.bool a0_4) := (kC_ BK207.out 4).trans rfl; have hfz48_0 := kF_ BK207.out 0; have hfz48_1 := kF_ BK207.out 1; have hfz48_2 := kF_ BK207.out 2; have hfz48_3 := kF_ BK207.out 3; have hfz48_4 := kF_ BK207.out 4; have hcz49_0 : w47.cell? ⟨gb208, 0, none⟩ = some (.slice A1_0 l1_0.length c1_0) := (kC_ BK208.out 0).trans rfl; have hcz49_1 : w47.cell? ⟨gb208, 1, none⟩ = some (.slice A1_1 l1_1.length c1_1) := (kC_ BK208.out 1).trans rfl; have hcz49_2 : w47.cell? ⟨gb208, 2, none⟩ = some (.int .i64 a1_2) := (kC_ BK208.out 2).trans rfl; have hcz49_3 : w47.cell? ⟨gb208, 3, none⟩ = some (.slice A1_3 l1_3.length c1_3) := (kC_ BK208.out 3).trans rfl; have hcz49_4 : w47.cell? ⟨gb208, 4, none⟩ = some (.bool a1_4) := (kC_ BK208.out 4).trans rfl; have hfz49_0 := kF_ BK208.out 0; have hfz49_1 := kF_ BK208.out 1; have hfz49_2 := kF_ BK208.out 2; have hfz49_3 := kF_ BK208.out 3; have hfz49_4 := kF_ BK208.out 4))
    go_ret
    exact ⟨by first | rfl | (simp [errW_none, errW_some] <;> rfl) | (simp [*, errW_none, errW_some] <;> rfl), by repeat (first | (with_reducible first | exact HB.out | apply bA_ | apply bN_ | apply bD_ | refine bE_ ?_ GE207.out | refine bE_ ?_ GE208.out) | exact HB.out)⟩
  ·replace c6 := Bool.eq_false_iff.mpr c6
   subst c6
   have H1 : (some false) = some r := by rw [if_neg (show ¬ (false = true) by decide)] at H; exact H
   clear H
   have H := H1
   clear H1
   obtain rfl := Option.some.inj H
   go_enter Try.func18, Try.ntmps18
   go_wp2_with (first | ((with_reducible refine gate_dst (N := 2) rfl ?_); refine box_event ?hg (N := 2) ?hd (cs := #[.slice A0_0 l0_0.length c0_0, .slice A0_1 l0_1.length c0_1, .int .i64 a0_2, .slice A0_3 l0_3.length c0_3, .bool a0_4]) (t := 32) ?hr ?_; (case hd => rfl); (case hg => rfl); (case hr => first | (go_simp; done) | (go_simp; rfl)); intro gb207 hg w50 hbox hb; have n0_ := aM_ (bT_ (by repeat (first | (with_reducible first | exact HB.out | apply bA_ | apply bN_ | apply bD_) | exact HB.out)) hb); have n1_ := aM_ (hbox); have n2_ := aM_ ((by rw [hg]; exact (bS_ (by repeat (first | (with_reducible first | exact HB.out | apply bA_ | apply bN_ | apply bD_) | exact HB.out))) : w.heap.size ≤ gb207)); have n3_ := aM_ ((by rw [hg]; exact (bS_ (by repeat (first | (with_reducible first | exact HB.out | apply bA_ | apply bN_ | apply bD_) | exact HB.out))) : w.heap.size ≤ gb207)); clear HB; have HB := n0_; have BK207 := n1_; have GW207 := n2_; have GE207 := n3_; clear n0_ n1_ n2_ n3_; clear hb hbox hg) | ((with_reducible refine gate_dst (N := 3) rfl ?_); refine box_event ?hg (N := 3) ?hd (cs := #[.slice A1_0 l1_0.length c1_0, .slice A1_1 l1_1.length c1_1, .int .i64 a1_2, .slice A1_3 l1_3.length c1_3, .bool a1_4]) (t := 32) ?hr ?_; (case hd => rfl); (case hg => rfl); (case hr => first | (go_simp; done) | (go_simp; rfl)); intro gb208 hg w51 hbox hb; have n0_ := aM_ (blk_below (g := gb207) (o := .cells #[.slice A0_0 l0_0.length c0_0, .slice A0_1 l0_1.length c0_1, .int .i64 a0_2, .slice A0_3 l0_3.length c0_3, .bool a0_4] 32 (0, 0)) (by (with_reducible repeat (first | refine kN_ ?_ _ | refine kD_ ?_ | refine kA_ ?_ _)); exact BK207.out) hb); have n1_ := aM_ (bT_ (by repeat (first | (with_reducible first | exact HB.out | apply bA_ | apply bN_ | apply bD_ | refine bE_ ?_ GE207.out) | exact HB.out)) hb); have n2_ := aM_ (hbox); have n3_ := aM_ ((by rw [hg]; exact (bS_ (by repeat (first | (with_reducible first | exact HB.out | apply bA_ | apply bN_ | apply bD_ | refine bE_ ?_ GE207.out) | exact HB.out))) : w.heap.size ≤ gb208)); have n4_ := aM_ ((by rw [hg]; exact (bS_ (by repeat (first | (with_reducible first | exact HB.out | apply bA_ | apply bN_ | apply bD_ | refine bE_ ?_ GE207.out) | exact HB.out))) : w.heap.size ≤ gb208)); have n5_ := aM_ ((by rw [hg]; exact Nat.ne_of_lt (blk_lt (g := gb207) (o := .cells #[.slice A0_0 l0_0.length c0_0, .slice A0_1 l0_1.length c0_1, .int .i64 a0_2, .slice A0_3 l0_3.length c0_3, .bool a0_4] 32 (0, 0)) (by (with_reducible repeat (first | refine kN_ ?_ _ | refine kD_ ?_ | refine kA_ ?_ _)); exact BK207.out)) : gb207 ≠ gb208)); have n6_ := aM_ ((by rw [hg]; exact Nat.ne_of_gt (blk_lt (g := gb207) (o := .cells #[.slice A0_0 l0_0.length c0_0, .slice A0_1 l0_1.length c0_1, .int .i64 a0_2, .slice A0_3 l0_3.length c0_3, .bool a0_4] 32 (0, 0)) (by (with_reducible repeat (first | refine kN_ ?_ _ | refine kD_ ?_ | refine kA_ ?_ _)); exact BK207.out)) : gb208 ≠ gb207)); clear BK207; clear HB; have BK207 := n0_; have HB := n1_; have BK208 := n2_; have GW208 := n3_; have GE208 := n4_; have NB207_208 := n5_; have NB208_207 := n6_; clear n0_ n1_ n2_ n3_ n4_ n5_ n6_; clear hb hbox hg; have hnb52 := NB207_208.out; have hnc52 := NB208_207.out; have hcz53_0 : w51.cell? ⟨gb207, 0, none⟩ = some (.slice A0_0 l0_0.length c0_0) := (kC_ BK207.out 0).trans rfl; have hcz53_1 : w51.cell? ⟨gb207, 1, none⟩ = some (.slice A0_1 l0_1.length c0_1) := (kC_ BK207.out 1).trans rfl; have hcz53_2 : w51.cell? ⟨gb207, 2, none⟩ = some (.int .i64 a0_2) := (kC_ BK207.out 2).trans rfl; have hcz53_3 : w51.cell? ⟨gb207, 3, none⟩ = some (.slice A0_3 l0_3.length c0_3) := (kC_ BK207.out 3).trans rfl; have hcz53_4 : w51.cell? ⟨gb207, 4, none⟩ = some (.bool a0_4) := (kC_ BK207.out 4).trans rfl; have hfz53_0 := kF_ BK207.out 0; have hfz53_1 := kF_ BK207.out 1; have hfz53_2 := kF_ BK207.out 2; have hfz53_3 := kF_ BK207.out 3; have hfz53_4 := kF_ BK207.out 4; have hcz54_0 : w51.cell? ⟨gb208, 0, none⟩ = some (.slice A1_0 l1_0.length c1_0) := (kC_ BK208.out 0).trans rfl; have hcz54_1 : w51.cell? ⟨gb208, 1, none⟩ = some (.slice A1_1 l1_1.length c1_1) := (kC_ BK208.out 1).trans rfl; have hcz54_2 : w51.cell? ⟨gb208, 2, none⟩ = some (.int .i64 a1_2) := (kC_ BK208.out 2).trans rfl; have hcz54_3 : w51.cell? ⟨gb208, 3, none⟩ = some (.slice A1_3 l1_3.length c1_3) := (kC_ BK208.out 3).trans rfl; have hcz54_4 : w51.cell? ⟨gb208, 4, none⟩ = some (.bool a1_4) := (kC_ BK208.out 4).trans rfl; have hfz54_0 := kF_ BK208.out 0; have hfz54_1 := kF_ BK208.out 1; have hfz54_2 := kF_ BK208.out 2; have hfz54_3 := kF_ BK208.out 3; have hfz54_4 := kF_ BK208.out 4) | ((with_reducible refine gate_callee (f := 63) rfl ?_); refine goesL_ (some 9) rfl rfl Try.func63 (by kernel_rfl) rfl #[.slice A0_0 l0_0.length c0_0, .slice A1_0 l1_0.length c1_0] rfl (by (try simp only [mA_, mC_, mN_]); first | done | rfl | (simp only [lD_, lT_]; rfl)) ?_; (with_reducible refine (laws_eqByteSS.calls k _ _ l0_0 _ _ l1_0 true _ ?side1 ?side2 ?side3 ?side4 A3.out).mono ?_); (case side1 => repeat (first | exact (Kd.C_below HR0_0.out HB.out) | (with_reducible refine cA_ ?_ _) | (with_reducible refine cN_ ?_ _) | (with_reducible refine cD_ ?_))); (case side2 => exact HC0_0.out); (case side3 => repeat (first | exact (Kd.C_below HR1_0.out HB.out) | (with_reducible refine cA_ ?_ _) | (with_reducible refine cN_ ?_ _) | (with_reducible refine cD_ ?_))); (case side4 => exact HC1_0.out); rintro e w' ⟨rfl, ⟨nd, rfl⟩⟩; refine ⟨_, rfl, ?_⟩) | ((with_reducible refine gate_callee (f := 64) rfl ?_); refine goesL_ (some 15) rfl rfl Try.func64 (by kernel_rfl) rfl #[.slice A0_1 l0_1.length c0_1, .slice A1_1 l1_1.length c1_1] rfl (by (try simp only [mA_, mC_, mN_]); first | done | rfl | (simp only [lD_, lT_]; rfl)) ?_; (with_reducible refine (laws_eqWriteS.calls k _ _ l0_1 _ _ l1_1 false _ ?side1 ?side2 ?side3 ?side4 A5.out).mono ?_); (case side1 => repeat (first | exact (Kd.C_below HR0_1.out (by repeat (first | (with_reducible first | exact HB.out | apply bA_ | apply bN_ | apply bD_ | refine bE_ ?_ GE207.out | refine bE_ ?_ GE208.out) | exact HB.out))) | (with_reducible refine cA_ ?_ _) | (with_reducible refine cN_ ?_ _) | (with_reducible refine cD_ ?_))); (case side2 => exact HC0_1.out); (case side3 => repeat (first | exact (Kd.C_below HR1_1.out (by repeat (first | (with_reducible first | exact HB.out | apply bA_ | apply bN_ | apply bD_ | refine bE_ ?_ GE207.out | refine bE_ ?_ GE208.out) | exact HB.out))) | (with_reducible refine cA_ ?_ _) | (with_reducible refine cN_ ?_ _) | (with_reducible refine cD_ ?_))); (case side4 => exact HC1_1.out); rintro e w55 ⟨rfl, hb⟩; refine ⟨_, rfl, ?_⟩; have n0_ := aM_ (blk_below (g := gb207) (o := .cells #[.slice A0_0 l0_0.length c0_0, .slice A0_1 l0_1.length c0_1, .int .i64 a0_2, .slice A0_3 l0_3.length c0_3, .bool a0_4] 32 (0, 0)) (by (with_reducible repeat (first | refine kN_ ?_ _ | refine kD_ ?_ | refine kA_ ?_ _)); exact BK207.out) hb); have n1_ := aM_ (blk_below (g := gb208) (o := .cells #[.slice A1_0 l1_0.length c1_0, .slice A1_1 l1_1.length c1_1, .int .i64 a1_2, .slice A1_3 l1_3.length c1_3, .bool a1_4] 32 (0, 0)) (by (with_reducible repeat (first | refine kN_ ?_ _ | refine kD_ ?_ | refine kA_ ?_ _)); exact BK208.out) hb); have n2_ := aM_ (bT_ (by repeat (first | (with_reducible first | exact HB.out | apply bA_ | apply bN_ | apply bD_ | refine bE_ ?_ GE207.out | refine bE_ ?_ GE208.out) | exact HB.out)) hb); clear BK207; clear BK208; clear HB; have BK207 := n0_; have BK208 := n1_; have HB := n2_; clear n0_ n1_ n2_; (try clear hb); (try clear hb2); (try clear hk); (try clear hi)))
   go_ret
   exact ⟨by first | rfl | (simp [errW_none, errW_some] <;> rfl) | (simp [*, errW_none, errW_some] <;> rfl), by repeat (first | (with_reducible first | exact HB.out | apply bA_ | apply bN_ | apply bD_ | refine bE_ ?_ GE207.out | refine bE_ ?_ GE208.out) | exact HB.out)⟩
 ·replace c4 := Bool.eq_false_iff.mpr c4
  subst c4
  have H1 : (some false) = some r := by rw [if_neg (show ¬ (false = true) by decide)] at H; exact H
  clear H
  have H := H1
  clear H1
  obtain rfl := Option.some.inj H
  go_enter Try.func18, Try.ntmps18
  go_wp2_with (first | ((with_reducible refine gate_dst (N := 2) rfl ?_); refine box_event ?hg (N := 2) ?hd (cs := #[.slice A0_0 l0_0.length c0_0, .slice A0_1 l0_1.length c0_1, .int .i64 a0_2, .slice A0_3 l0_3.length c0_3, .bool a0_4]) (t := 32) ?hr ?_; (case hd => rfl); (case hg => rfl); (case hr => first | (go_simp; done) | (go_simp; rfl)); intro gb207 hg w56 hbox hb; have n0_ := aM_ (bT_ (by repeat (first | (with_reducible first | exact HB.out | apply bA_ | apply bN_ | apply bD_) | exact HB.out)) hb); have n1_ := aM_ (hbox); have n2_ := aM_ ((by rw [hg]; exact (bS_ (by repeat (first | (with_reducible first | exact HB.out | apply bA_ | apply bN_ | apply bD_) | exact HB.out))) : w.heap.size ≤ gb207)); have n3_ := aM_ ((by rw [hg]; exact (bS_ (by repeat (first | (with_reducible first | exact HB.out | apply bA_ | apply bN_ | apply bD_) | exact HB.out))) : w.heap.size ≤ gb207)); clear HB; have HB := n0_; have BK207 := n1_; have GW207 := n2_; have GE207 := n3_; clear n0_ n1_ n2_ n3_; clear hb hbox hg) | ((with_reducible refine gate_dst (N := 3) rfl ?_); refine box_event ?hg (N := 3) ?hd (cs := #[.slice A1_0 l1_0.length c1_0, .slice A1_1 l1_1.length c1_1, .int .i64 a1_2, .slice A1_3 l1_3.length c1_3, .bool a1_4]) (t := 32) ?hr ?_; (case hd => rfl); (case hg => rfl); (case hr => first | (go_simp; done) | (go_simp; rfl)); intro gb208 hg w57 hbox hb; have n0_ := aM_ (blk_below (g := gb207) (o := .cells #[.slice A0_0 l0_0.length c0_0, .slice A0_1 l0_1.length c0_1, .int .i64 a0_2, .slice A0_3 l0_3.length c0_3, .bool a0_4] 32 (0, 0)) (by (with_reducible repeat (first | refine kN_ ?_ _ | refine kD_ ?_ | refine kA_ ?_ _)); exact BK207.out) hb); have n1_ := aM_ (bT_ (by repeat (first | (with_reducible first | exact HB.out | apply bA_ | apply bN_ | apply bD_ | refine bE_ ?_ GE207.out) | exact HB.out)) hb); have n2_ := aM_ (hbox); have n3_ := aM_ ((by rw [hg]; exact (bS_ (by repeat (first | (with_reducible first | exact HB.out | apply bA_ | apply bN_ | apply bD_ | refine bE_ ?_ GE207.out) | exact HB.out))) : w.heap.size ≤ gb208)); have n4_ := aM_ ((by rw [hg]; exact (bS_ (by repeat (first | (with_reducible first | exact HB.out | apply bA_ | apply bN_ | apply bD_ | refine bE_ ?_ GE207.out) | exact HB.out))) : w.heap.size ≤ gb208)); have n5_ := aM_ ((by rw [hg]; exact Nat.ne_of_lt (blk_lt (g := gb207) (o := .cells #[.slice A0_0 l0_0.length c0_0, .slice A0_1 l0_1.length c0_1, .int .i64 a0_2, .slice A0_3 l0_3.length c0_3, .bool a0_4] 32 (0, 0)) (by (with_reducible repeat (first | refine kN_ ?_ _ | refine kD_ ?_ | refine kA_ ?_ _)); exact BK207.out)) : gb207 ≠ gb208)); have n6_ := aM_ ((by rw [hg]; exact Nat.ne_of_gt (blk_lt (g := gb207) (o := .cells #[.slice A0_0 l0_0.length c0_0, .slice A0_1 l0_1.length c0_1, .int .i64 a0_2, .slice A0_3 l0_3.length c0_3, .bool a0_4] 32 (0, 0)) (by (with_reducible repeat (first | refine kN_ ?_ _ | refine kD_ ?_ | refine kA_ ?_ _)); exact BK207.out)) : gb208 ≠ gb207)); clear BK207; clear HB; have BK207 := n0_; have HB := n1_; have BK208 := n2_; have GW208 := n3_; have GE208 := n4_; have NB207_208 := n5_; have NB208_207 := n6_; clear n0_ n1_ n2_ n3_ n4_ n5_ n6_; clear hb hbox hg; have hnb58 := NB207_208.out; have hnc58 := NB208_207.out; have hcz59_0 : w57.cell? ⟨gb207, 0, none⟩ = some (.slice A0_0 l0_0.length c0_0) := (kC_ BK207.out 0).trans rfl; have hcz59_1 : w57.cell? ⟨gb207, 1, none⟩ = some (.slice A0_1 l0_1.length c0_1) := (kC_ BK207.out 1).trans rfl; have hcz59_2 : w57.cell? ⟨gb207, 2, none⟩ = some (.int .i64 a0_2) := (kC_ BK207.out 2).trans rfl; have hcz59_3 : w57.cell? ⟨gb207, 3, none⟩ = some (.slice A0_3 l0_3.length c0_3) := (kC_ BK207.out 3).trans rfl; have hcz59_4 : w57.cell? ⟨gb207, 4, none⟩ = some (.bool a0_4) := (kC_ BK207.out 4).trans rfl; have hfz59_0 := kF_ BK207.out 0; have hfz59_1 := kF_ BK207.out 1; have hfz59_2 := kF_ BK207.out 2; have hfz59_3 := kF_ BK207.out 3; have hfz59_4 := kF_ BK207.out 4; have hcz60_0 : w57.cell? ⟨gb208, 0, none⟩ = some (.slice A1_0 l1_0.length c1_0) := (kC_ BK208.out 0).trans rfl; have hcz60_1 : w57.cell? ⟨gb208, 1, none⟩ = some (.slice A1_1 l1_1.length c1_1) := (kC_ BK208.out 1).trans rfl; have hcz60_2 : w57.cell? ⟨gb208, 2, none⟩ = some (.int .i64 a1_2) := (kC_ BK208.out 2).trans rfl; have hcz60_3 : w57.cell? ⟨gb208, 3, none⟩ = some (.slice A1_3 l1_3.length c1_3) := (kC_ BK208.out 3).trans rfl; have hcz60_4 : w57.cell? ⟨gb208, 4, none⟩ = some (.bool a1_4) := (kC_ BK208.out 4).trans rfl; have hfz60_0 := kF_ BK208.out 0; have hfz60_1 := kF_ BK208.out 1; have hfz60_2 := kF_ BK208.out 2; have hfz60_3 := kF_ BK208.out 3; have hfz60_4 := kF_ BK208.out 4) | ((with_reducible refine gate_callee (f := 63) rfl ?_); refine goesL_ (some 9) rfl rfl Try.func63 (by kernel_rfl) rfl #[.slice A0_0 l0_0.length c0_0, .slice A1_0 l1_0.length c1_0] rfl (by (try simp only [mA_, mC_, mN_]); first | done | rfl | (simp only [lD_, lT_]; rfl)) ?_; (with_reducible refine (laws_eqByteSS.calls k _ _ l0_0 _ _ l1_0 false _ ?side1 ?side2 ?side3 ?side4 A3.out).mono ?_); (case side1 => repeat (first | exact (Kd.C_below HR0_0.out HB.out) | (with_reducible refine cA_ ?_ _) | (with_reducible refine cN_ ?_ _) | (with_reducible refine cD_ ?_))); (case side2 => exact HC0_0.out); (case side3 => repeat (first | exact (Kd.C_below HR1_0.out HB.out) | (with_reducible refine cA_ ?_ _) | (with_reducible refine cN_ ?_ _) | (with_reducible refine cD_ ?_))); (case side4 => exact HC1_0.out); rintro e w' ⟨rfl, ⟨nd, rfl⟩⟩; refine ⟨_, rfl, ?_⟩))
  go_ret
  exact ⟨by first | rfl | (simp [errW_none, errW_some] <;> rfl) | (simp [*, errW_none, errW_some] <;> rfl), by repeat (first | (with_reducible first | exact HB.out | apply bA_ | apply bN_ | apply bD_ | refine bE_ ?_ GE207.out | refine bE_ ?_ GE208.out) | exact HB.out)⟩

/-! ### laws_FnExactDiskOk: function 3 -/
def laws_FnExactDiskOk.f (k : Nat) (l0_0 : List (List Int)) (l0_1 : List (S111)) (a0_2 : Int) (l0_3 : List (S82)) (a0_4 : Bool) : Option (Bool) := (laws_szDisk.f k l0_0 l0_1 a0_2 l0_3 a0_4 1048576).bind fun t213 => (if t213 < 0 then (some true) else ((laws_toDisk.f k l0_0 l0_1 a0_2 l0_3 a0_4).bind fun bt214 => ((spec_DiskOk.f k bt214.1 bt214.2.1 bt214.2.2.1 bt214.2.2.2.1 bt214.2.2.2.2).bind fun t225 => ((laws_toDisk.f k l0_0 l0_1 a0_2 l0_3 a0_4).bind fun bt226 => ((impl_DiskOk.f k bt226.1 bt226.2.1 bt226.2.2.1 bt226.2.2.2.1 bt226.2.2.2.2).bind fun t238 => (if (t238 != t225) = true then (some false) else ((laws_toDisk.f k l0_0 l0_1 a0_2 l0_3 a0_4).bind fun bt239 => ((laws_eqDisk.f k bt226.1 bt226.2.1 bt226.2.2.1 bt226.2.2.2.1 bt226.2.2.2.2 bt239.1 bt239.2.1 bt239.2.2.1 bt239.2.2.2.1 bt239.2.2.2.2).bind fun t250 => (if t250 = true then (some true) else (some false))))))))))
theorem laws_FnExactDiskOk.mono : ∀ a0 a1 a2 a3 a4 k, LeO (laws_FnExactDiskOk.f k a0 a1 a2 a3 a4) (laws_FnExactDiskOk.f (k + 1) a0 a1 a2 a3 a4) := by
 intro a0 a1 a2 a3 a4 k
 unfold laws_FnExactDiskOk.f
 repeat' first
   | (with_reducible exact impl_DiskOk.mono _ _ _ _ _ _)
   | (with_reducible exact laws_eqDisk.mono _ _ _ _ _ _ _ _ _ _ _)
   | (with_reducible exact laws_szDisk.mono _ _ _ _ _ _ _)
   | (with_reducible exact laws_toDisk.mono _ _ _ _ _ _)
   | (with_reducible exact spec_DiskOk.mono _ _ _ _ _ _)
   | (with_reducible exact LeO.refl _)
   | (with_reducible exact LeO.none _)
   | (with_reducible refine LeO.ite ?_ ?_)
   | (with_reducible refine LeO.bind ?_ (fun _ => ?_))
   | exact impl_DiskOk.mono _ _ _ _ _ _
   | exact laws_eqDisk.mono _ _ _ _ _ _ _ _ _ _ _
   | exact laws_szDisk.mono _ _ _ _ _ _ _
   | exact laws_toDisk.mono _ _ _ _ _ _
   | exact spec_DiskOk.mono _ _ _ _ _ _
   | exact LeO.none _
   | refine LeO.ite ?_ ?_
   | refine LeO.bind ?_ (fun _ => ?_)
set_option maxHeartbeats 8000000 in
set_option maxRecDepth 100000 in
theorem laws_FnExactDiskOk.calls (k : Nat) (A0_0 : Option Addr) (c0_0 : Nat) (l0_0 : List (List Int)) (A0_1 : Option Addr) (c0_1 : Nat) (l0_1 : List (S111)) (a0_2 : Int) (A0_3 : Option Addr) (c0_3 : Nat) (l0_3 : List (S82)) (a0_4 : Bool) (r : Bool) (w : World) (hr0_0 : Kd.C (Kd.slice 5 (Kd.int .u8)) w A0_0 l0_0.length l0_0) (hc0_0 : l0_0.length ≤ c0_0) (hr0_1 : Kd.C k111 w A0_1 l0_1.length l0_1) (hc0_1 : l0_1.length ≤ c0_1) (hr0_3 : Kd.C k82 w A0_3 l0_3.length l0_3) (hc0_3 : l0_3.length ≤ c0_3) (hr_ : Aside0 (r = true)) (h : laws_FnExactDiskOk.f k l0_0 l0_1 a0_2 l0_3 a0_4 = some r) :
  Calls Try.prog 3 #[.agg #[.slice A0_0 l0_0.length c0_0, .slice A0_1 l0_1.length c0_1, .int .i64 a0_2, .slice A0_3 l0_3.length c0_3, .bool a0_4]] w fun e w' => e = .returned (.bool r) ∧ Below w.heap.size w w' := by
 have hu26 := Try.underlying26
 have hu32 := Try.underlying32
 have HR0_0 := aM_ hr0_0
 have HC0_0 := aM_ hc0_0
 clear hr0_0 hc0_0
 have HR0_1 := aM_ hr0_1
 have HC0_1 := aM_ hc0_1
 clear hr0_1 hc0_1
 have HR0_3 := aM_ hr0_3
 have HC0_3 := aM_ hc0_3
 clear hr0_3 hc0_3
 have HB := aM_ (Below.refl w.heap.size w)
 have H : ((laws_szDisk.f k l0_0 l0_1 a0_2 l0_3 a0_4 1048576).bind fun t213 => (if t213 < 0 then (some true) else ((laws_toDisk.f k l0_0 l0_1 a0_2 l0_3 a0_4).bind fun bt214 => ((spec_DiskOk.f k bt214.1 bt214.2.1 bt214.2.2.1 bt214.2.2.2.1 bt214.2.2.2.2).bind fun t225 => ((laws_toDisk.f k l0_0 l0_1 a0_2 l0_3 a0_4).bind fun bt226 => ((impl_DiskOk.f k bt226.1 bt226.2.1 bt226.2.2.1 bt226.2.2.2.1 bt226.2.2.2.2).bind fun t238 => (if (t238 != t225) = true then (some false) else ((laws_toDisk.f k l0_0 l0_1 a0_2 l0_3 a0_4).bind fun bt239 => ((laws_eqDisk.f k bt226.1 bt226.2.1 bt226.2.2.1 bt226.2.2.2.1 bt226.2.2.2.2 bt239.1 bt239.2.1 bt239.2.2.1 bt239.2.2.2.1 bt239.2.2.2.2).bind fun t250 => (if t250 = true then (some true) else (some false))))))))))) = some r := h
 clear h
 replace H := oB_ H
 obtain ⟨t213, A20, H⟩ := H
 replace H : (if t213 < 0 then (some true) else ((laws_toDisk.f k l0_0 l0_1 a0_2 l0_3 a0_4).bind fun bt214 => ((spec_DiskOk.f k bt214.1 bt214.2.1 bt214.2.2.1 bt214.2.2.2.1 bt214.2.2.2.2).bind fun t225 => ((laws_toDisk.f k l0_0 l0_1 a0_2 l0_3 a0_4).bind fun bt226 => ((impl_DiskOk.f k bt226.1 bt226.2.1 bt226.2.2.1 bt226.2.2.2.1 bt226.2.2.2.2).bind fun t238 => (if (t238 != t225) = true then (some false) else ((laws_toDisk.f k l0_0 l0_1 a0_2 l0_3 a0_4).bind fun bt239 => ((laws_eqDisk.f k bt226.1 bt226.2.1 bt226.2.2.1 bt226.2.2.2.1 bt226.2.2.2.2 bt239.1 bt239.2.1 bt239.2.2.1 bt239.2.2.2.1 bt239.2.2.2.2).bind fun t250 => (if t250 = true then (some true) else (some false)))))))))) = some r := H
 have A2 := aM_ A20
 clear A20
 by_cases c3 : t213 < 0
 ·rw [if_pos c3] at H
  have c3b0 : decide (t213 < 0) = true := decide_eq_true c3
  clear c3
  obtain rfl := Option.some.inj H
  go_enter Try.func3, Try.ntmps3
  go_wp2_with (first | ((with_reducible refine gate_dst (N := 1) rfl ?_); refine box_event ?hg (N := 1) ?hd (cs := #[.slice A0_0 l0_0.length c0_0, .slice A0_1 l0_1.length c0_1, .int .i64 a0_2, .slice A0_3 l0_3.length c0_3, .bool a0_4]) (t := 26) ?hr ?_; (case hd => rfl); (case hg => rfl); (case hr => first | (go_simp; done) | (go_simp; rfl)); intro gb212 hg w4 hbox hb; have n0_ := aM_ (bT_ (by repeat (first | (with_reducible first | exact HB.out | apply bA_ | apply bN_ | apply bD_) | exact HB.out)) hb); have n1_ := aM_ (hbox); have n2_ := aM_ ((by rw [hg]; exact (bS_ (by repeat (first | (with_reducible first | exact HB.out | apply bA_ | apply bN_ | apply bD_) | exact HB.out))) : w.heap.size ≤ gb212)); have n3_ := aM_ ((by rw [hg]; exact (bS_ (by repeat (first | (with_reducible first | exact HB.out | apply bA_ | apply bN_ | apply bD_) | exact HB.out))) : w.heap.size ≤ gb212)); clear HB; have HB := n0_; have BK212 := n1_; have GW212 := n2_; have GE212 := n3_; clear n0_ n1_ n2_ n3_; clear hb hbox hg; have hcz5_0 : w4.cell? ⟨gb212, 0, none⟩ = some (.slice A0_0 l0_0.length c0_0) := (kC_ BK212.out 0).trans rfl; have hcz5_1 : w4.cell? ⟨gb212, 1, none⟩ = some (.slice A0_1 l0_1.length c0_1) := (kC_ BK212.out 1).trans rfl; have hcz5_2 : w4.cell? ⟨gb212, 2, none⟩ = some (.int .i64 a0_2) := (kC_ BK212.out 2).trans rfl; have hcz5_3 : w4.cell? ⟨gb212, 3, none⟩ = some (.slice A0_3 l0_3.length c0_3) := (kC_ BK212.out 3).trans rfl; have hcz5_4 : w4.cell? ⟨gb212, 4, none⟩ = some (.bool a0_4) := (kC_ BK212.out 4).trans rfl; have hfz5_0 := kF_ BK212.out 0; have hfz5_1 := kF_ BK212.out 1; have hfz5_2 := kF_ BK212.out 2; have hfz5_3 := kF_ BK212.out 3; have hfz5_4 := kF_ BK212.out 4) | ((with_reducible refine gate_callee (f := 14) rfl ?_); refine goesL_ (some 9) rfl rfl Try.func14 (by kernel_rfl) rfl #[.agg #[.slice A0_0 l0_0.length c0_0, .slice A0_1 l0_1.length c0_1, .int .i64 a0_2, .slice A0_3 l0_3.length c0_3, .bool a0_4], .int .i64 1048576] rfl (by (try simp only [mA_, mC_, mN_]); first | done | rfl | (simp only [lD_, lT_]; rfl)) ?_; (with_reducible refine (laws_szDisk.calls k _ _ l0_0 _ _ l0_1 a0_2 _ _ l0_3 a0_4 1048576 t213 _ ?side1 ?side2 ?side3 ?side4 ?side5 ?side6 A2.out).mono ?_); (case side1 => repeat (first | exact (Kd.C_below HR0_0.out HB.out) | (with_reducible refine cA_ ?_ _) | (with_reducible refine cN_ ?_ _) | (with_reducible refine cD_ ?_))); (case side2 => exact HC0_0.out); (case side3 => repeat (first | exact (Kd.C_below HR0_1.out HB.out) | (with_reducible refine cA_ ?_ _) | (with_reducible refine cN_ ?_ _) | (with_reducible refine cD_ ?_))); (case side4 => exact HC0_1.out); (case side5 => repeat (first | exact (Kd.C_below HR0_3.out HB.out) | (with_reducible refine cA_ ?_ _) | (with_reducible refine cN_ ?_ _) | (with_reducible refine cD_ ?_))); (case side6 => exact HC0_3.out); rintro e w6 ⟨rfl, hb⟩; refine ⟨_, rfl, ?_⟩; have n0_ := aM_ (blk_below (g := gb212) (o := .cells #[.slice A0_0 l0_0.length c0_0, .slice A0_1 l0_1.length c0_1, .int .i64 a0_2, .slice A0_3 l0_3.length c0_3, .bool a0_4] 26 (0, 0)) (by (with_reducible repeat (first | refine kN_ ?_ _ | refine kD_ ?_ | refine kA_ ?_ _)); exact BK212.out) hb); have n1_ := aM_ (bT_ (by repeat (first | (with_reducible first | exact HB.out | apply bA_ | apply bN_ | apply bD_ | refine bE_ ?_ GE212.out) | exact HB.out)) hb); clear BK212; clear HB; have BK212 := n0_; have HB := n1_; clear n0_ n1_; (try clear hb); (try clear hb2); (try clear hk); (try clear hi)))
  go_ret
  exact ⟨by first | rfl | (simp [errW_none, errW_some] <;> rfl) | (simp [*, errW_none, errW_some] <;> rfl), by repeat (first | (with_reducible first | exact HB.out | apply bA_ | apply bN_ | apply bD_ | refine bE_ ?_ GE212.out) | exact HB.out)⟩
 ·rw [if_neg c3] at H
  have c3b0 : decide (t213 < 0) = false := decide_eq_false c3
  clear c3
  replace H := oB_ H
  obtain ⟨⟨t214, t217, t220, t221, t224⟩, A70, H⟩ := H
  replace H : ((spec_DiskOk.f k t214 t217 t220 t221 t224).bind fun t225 => ((laws_toDisk.f k l0_0 l0_1 a0_2 l0_3 a0_4).bind fun bt226 => ((impl_DiskOk.f k bt226.1 bt226.2.1 bt226.2.2.1 bt226.2.2.2.1 bt226.2.2.2.2).bind fun t238 => (if (t238 != t225) = true then (some false) else ((laws_toDisk.f k l0_0 l0_1 a0_2 l0_3 a0_4).bind fun bt239 => ((laws_eqDisk.f k bt226.1 bt226.2.1 bt226.2.2.1 bt226.2.2.2.1 bt226.2.2.2.2 bt239.1 bt239.2.1 bt239.2.2.1 bt239.2.2.2.1 bt239.2.2.2.2).bind fun t250 => (if t250 = true then (some true) else (some false)))))))) = some r := H
  have A7 := aM_ A70
  clear A70
  replace H := oB_ H
  obtain ⟨t225, A80, H⟩ := H
  replace H : ((laws_toDisk.f k l0_0 l0_1 a0_2 l0_3 a0_4).bind fun bt226 => ((impl_DiskOk.f k bt226.1 bt226.2.1 bt226.2.2.1 bt226.2.2.2.1 bt226.2.2.2.2).bind fun t238 => (if (t238 != t225) = true then (some false) else ((laws_toDisk.f k l0_0 l0_1 a0_2 l0_3 a0_4).bind fun bt239 => ((laws_eqDisk.f k bt226.1 bt226.2.1 bt226.2.2.1 bt226.2.2.2.1 bt226.2.2.2.2 bt239.1 bt239.2.1 bt239.2.2.1 bt239.2.2.2.1 bt239.2.2.2.2).bind fun t250 => (if t250 = true then (some true) else (some false))))))) = some r := H
  have A8 := aM_ A80
  clear A80
  replace H := oB_ H
  obtain ⟨⟨t226, t229, t232, t233, t236⟩, A90, H⟩ := H
  replace H : ((impl_DiskOk.f k t226 t229 t232 t233 t236).bind fun t238 => (if (t238 != t225) = true then (some false) else ((laws_toDisk.f k l0_0 l0_1 a0_2 l0_3 a0_4).bind fun bt239 => ((laws_eqDisk.f k t226 t229 t232 t233 t236 bt239.1 bt239.2.1 bt239.2.2.1 bt239.2.2.2.1 bt239.2.2.2.2).bind fun t250 => (if t250 = true then (some true) else (some false)))))) = some r := H
  have A9 := aM_ A90
  clear A90
  replace H := oB_ H
  obtain ⟨t238, A100, H⟩ := H
  replace H : (if (t238 != t225) = true then (some false) else ((laws_toDisk.f k l0_0 l0_1 a0_2 l0_3 a0_4).bind fun bt239 => ((laws_eqDisk.f k t226 t229 t232 t233 t236 bt239.1 bt239.2.1 bt239.2.2.1 bt239.2.2.2.1 bt239.2.2.2.2).bind fun t250 => (if t250 = true then (some true) else (some false))))) = some r := H
  have A10 := aM_ A100
  clear A100
  by_cases c11 : (t238 != t225) = true
  ·rw [if_pos c11] at H
   have c11b0 : (t238 != t225) = true := c11
   (try (have c11b1 : decide (t238 = t225) = false := by simpa using c11))
   (try (have c11b2 : (t238 == t225) = false := by simpa using c11))
   (try (have c11b3 : ¬ (t238 = t225) := by simpa using c11))
   clear c11
   exact absurd (H.trans (congrArg some hr_.out)) (by simp)
  ·rw [if_neg c11] at H
   have c11b0 : (t238 != t225) = false := by simpa using c11
   (try (have c11b1 : decide (t238 = t225) = true := by simpa using c11))
   (try (have c11b2 : (t238 == t225) = true := by simpa using c11))
   clear c11
   replace H := oB_ H
   obtain ⟨⟨t239, t242, t245, t246, t249⟩, A120, H⟩ := H
   replace H : ((laws_eqDisk.f k t226 t229 t232 t233 t236 t239 t242 t245 t246 t249).bind fun t250 => (if t250 = true then (some true) else (some false))) = some r := H
   have A12 := aM_ A120
   clear A120
   replace H := oB_ H
   obtain ⟨t250, A130, H⟩ := H
   replace H : (if t250 = true then (some true) else (some false)) = some r := H
   have A13 := aM_ A130
   clear A130
   by_cases c14 : t250 = true
   ·subst c14
    have H1 : (some true) = some r := by rw [if_pos rfl] at H; exact H
    clear H
    have H := H1
    clear H1
    obtain rfl := Option.some.inj H
    go_enter Try.func3, Try.ntmps3
    try go_wp2_with (first | ((with_reducible refine gate_dst (N := 1) rfl ?_); refine box_event ?hg (N := 1) ?hd (cs := #[.slice A0_0 l0_0.length c0_0, .slice A0_1 l0_1.length c0_1, .int .i64 a0_2, .slice A0_3 l0_3.length c0_3, .bool a0_4]) (t := 26) ?hr ?_; (case hd => rfl); (case hg => rfl); (case hr => first | (go_simp; done) | (go_simp; rfl)); intro gb212 hg w15 hbox hb; have n0_ := aM_ (bT_ (by repeat (first | (with_reducible first | exact HB.out | apply bA_ | apply bN_ | apply bD_) | exact HB.out)) hb); have n1_ := aM_ (hbox); have n2_ := aM_ ((by rw [hg]; exact (bS_ (by repeat (first | (with_reducible first | exact HB.out | apply bA_ | apply bN_ | apply bD_) | exact HB.out))) : w.heap.size ≤ gb212)); have n3_ := aM_ ((by rw [hg]; exact (bS_ (by repeat (first | (with_reducible first | exact HB.out | apply bA_ | apply bN_ | apply bD_) | exact HB.out))) : w.heap.size ≤ gb212)); clear HB; have HB := n0_; have BK212 := n1_; have GW212 := n2_; have GE212 := n3_; clear n0_ n1_ n2_ n3_; clear hb hbox hg; have hcz16_0 : w15.cell? ⟨gb212, 0, none⟩ = some (.slice A0_0 l0_0.length c0_0) := (kC_ BK212.out 0).trans rfl; have hcz16_1 : w15.cell? ⟨gb212, 1, none⟩ = some (.slice A0_1 l0_1.length c0_1) := (kC_ BK212.out 1).trans rfl; have hcz16_2 : w15.cell? ⟨gb212, 2, none⟩ = some (.int .i64 a0_2) := (kC_ BK212.out 2).trans rfl; have hcz16_3 : w15.cell? ⟨gb212, 3, none⟩ = some (.slice A0_3 l0_3.length c0_3) := (kC_ BK212.out 3).trans rfl; have hcz16_4 : w15.cell? ⟨gb212, 4, none⟩ = some (.bool a0_4) := (kC_ BK212.out 4).trans rfl; have hfz16_0 := kF_ BK212.out 0; have hfz16_1 := kF_ BK212.out 1; have hfz16_2 := kF_ BK212.out 2; have hfz16_3 := kF_ BK212.out 3; have hfz16_4 := kF_ BK212.out 4) | ((with_reducible refine gate_callee (f := 14) rfl ?_); refine goesL_ (some 9) rfl rfl Try.func14 (by kernel_rfl) rfl #[.agg #[.slice A0_0 l0_0.length c0_0, .slice A0_1 l0_1.length c0_1, .int .i64 a0_2, .slice A0_3 l0_3.length c0_3, .bool a0_4], .int .i64 1048576] rfl (by (try simp only [mA_, mC_, mN_]); first | done | rfl | (simp only [lD_, lT_]; rfl)) ?_; (with_reducible refine (laws_szDisk.calls k _ _ l0_0 _ _ l0_1 a0_2 _ _ l0_3 a0_4 1048576 t213 _ ?side1 ?side2 ?side3 ?side4 ?side5 ?side6 A2.out).mono ?_); (case side1 => repeat (first | exact (Kd.C_below HR0_0.out HB.out) | (with_reducible refine cA_ ?_ _) | (with_reducible refine cN_ ?_ _) | (with_reducible refine cD_ ?_))); (case side2 => exact HC0_0.out); (case side3 => repeat (first | exact (Kd.C_below HR0_1.out HB.out) | (with_reducible refine cA_ ?_ _) | (with_reducible refine cN_ ?_ _) | (with_reducible refine cD_ ?_))); (case side4 => exact HC0_1.out); (case side5 => repeat (first | exact (Kd.C_below HR0_3.out HB.out) | (with_reducible refine cA_ ?_ _) | (with_reducible refine cN_ ?_ _) | (with_reducible refine cD_ ?_))); (case side6 => exact HC0_3.out); rintro e w17 ⟨rfl, hb⟩; refine ⟨_, rfl, ?_⟩; have n0_ := aM_ (blk_below (g := gb212) (o := .cells #[.slice A0_0 l0_0.length c0_0, .slice A0_1 l0_1.length c0_1, .int .i64 a0_2, .slice A0_3 l0_3.length c0_3, .bool a0_4] 26 (0, 0)) (by (with_reducible repeat (first | refine kN_ ?_ _ | refine kD_ ?_ | refine kA_ ?_ _)); exact BK212.out) hb); have n1_ := aM_ (bT_ (by repeat (first | (with_reducible first | exact HB.out | apply bA_ | apply bN_ | apply bD_ | refine bE_ ?_ GE212.out) | exact HB.out)) hb); clear BK212; clear HB; have BK212 := n0_; have HB := n1_; clear n0_ n1_; (try clear hb); (try clear hb2); (try clear hk); (try clear hi); have hcz18_0 : w17.cell? ⟨gb212, 0, none⟩ = some (.slice A0_0 l0_0.length c0_0) := (kC_ BK212.out 0).trans rfl; have hcz18_1 : w17.cell? ⟨gb212, 1, none⟩ = some (.slice A0_1 l0_1.length c0_1) := (kC_ BK212.out 1).trans rfl; have hcz18_2 : w17.cell? ⟨gb212, 2, none⟩ = some (.int .i64 a0_2) := (kC_ BK212.out 2).trans rfl; have hcz18_3 : w17.cell? ⟨gb212, 3, none⟩ = some (.slice A0_3 l0_3.length c0_3) := (kC_ BK212.out 3).trans rfl; have hcz18_4 : w17.cell? ⟨gb212, 4, none⟩ = some (.bool a0_4) := (kC_ BK212.out 4).trans rfl; have hfz18_0 := kF_ BK212.out 0; have hfz18_1 := kF_ BK212.out 1; have hfz18_2 := kF_ BK212.out 2; have hfz18_3 := kF_ BK212.out 3; have hfz18_4 := kF_ BK212.out 4) | ((with_reducible refine gate_callee (f := 16) rfl ?_); refine goesL_ (some 13) rfl rfl Try.func16 (by kernel_rfl) rfl #[.agg #[.slice A0_0 l0_0.length c0_0, .slice A0_1 l0_1.length c0_1, .int .i64 a0_2, .slice A0_3 l0_3.length c0_3, .bool a0_4]] rfl (by (try simp only [mA_, mC_, mN_]); first | done | rfl | (simp only [lD_, lT_]; rfl)) ?_; (with_reducible refine (laws_toDisk.calls k _ _ l0_0 _ _ l0_1 a0_2 _ _ l0_3 a0_4 t214 t217 t220 t221 t224 _ ?side1 ?side2 ?side3 ?side4 ?side5 ?side6 A7.out).mono ?_); (case side1 => repeat (first | exact (Kd.C_below HR0_0.out HB.out) | (with_reducible refine cA_ ?_ _) | (with_reducible refine cN_ ?_ _) | (with_reducible refine cD_ ?_))); (case side2 => exact HC0_0.out); (case side3 => repeat (first | exact (Kd.C_below HR0_1.out HB.out) | (with_reducible refine cA_ ?_ _) | (with_reducible refine cN_ ?_ _) | (with_reducible refine cD_ ?_))); (case side4 => exact HC0_1.out); (case side5 => repeat (first | exact (Kd.C_below HR0_3.out HB.out) | (with_reducible refine cA_ ?_ _) | (with_reducible refine cN_ ?_ _) | (with_reducible refine cD_ ?_))); (case side6 => exact HC0_3.out); rintro e w19 ⟨v215, v218, v222, rfl, ho0, ho1, ho2, hb⟩; refine ⟨_, rfl, ?_⟩; have n0_ := aM_ (Kd.S_lower ho0 (bS_ (by repeat (first | (with_reducible first | exact HB.out | apply bA_ | apply bN_ | apply bD_ | refine bE_ ?_ GE212.out) | exact HB.out)))); have n1_ := aM_ (Kd.S_lower ho1 (bS_ (by repeat (first | (with_reducible first | exact HB.out | apply bA_ | apply bN_ | apply bD_ | refine bE_ ?_ GE212.out) | exact HB.out)))); have n2_ := aM_ (Kd.R_lower ho2 (bS_ (by repeat (first | (with_reducible first | exact HB.out | apply bA_ | apply bN_ | apply bD_ | refine bE_ ?_ GE212.out) | exact HB.out)))); have n3_ := aM_ (blk_below (g := gb212) (o := .cells #[.slice A0_0 l0_0.length c0_0, .slice A0_1 l0_1.length c0_1, .int .i64 a0_2, .slice A0_3 l0_3.length c0_3, .bool a0_4] 26 (0, 0)) (by (with_reducible repeat (first | refine kN_ ?_ _ | refine kD_ ?_ | refine kA_ ?_ _)); exact BK212.out) hb); have n4_ := aM_ (bT_ (by repeat (first | (with_reducible first | exact HB.out | apply bA_ | apply bN_ | apply bD_ | refine bE_ ?_ GE212.out) | exact HB.out)) hb); clear BK212; clear HB; have HO216 := n0_; have HO219 := n1_; have HO223 := n2_; have BK212 := n3_; have HB := n4_; clear n0_ n1_ n2_ n3_ n4_; (try clear hb); (try clear hb2); (try clear hk); (try clear hi); (try clear ho0); (try clear ho1); (try clear ho2); obtain ⟨Ao20, co20, eo20⟩ := Kd.S_slice HO216.out; subst eo20; obtain ⟨Ao21, co21, eo21⟩ := Kd.S_slice HO219.out; subst eo21; obtain ⟨Ao22, co22, eo22⟩ := Kd.R_slice HO223.out; subst eo22) | ((with_reducible refine gate_callee (f := 15) rfl ?_); refine goesL_ (some 14) rfl rfl Try.func15 (by kernel_rfl) rfl #[.agg #[.slice Ao20 t214.length co20, .slice Ao21 t217.length co21, .int .i64 t220, .slice Ao22 t221.length co22, .bool t224]] rfl (by (try simp only [mA_, mC_, mN_]); first | done | rfl | (simp only [lD_, lT_]; rfl)) ?_; (with_reducible refine (spec_DiskOk.calls k _ _ t214 _ _ t217 t220 _ _ t221 t224 t225 _ ?side1 ?side2 ?side3 ?side4 ?side5 ?side6 A8.out).mono ?_); (case side1 => repeat (first | exact (Kd.S_reads' HO216.out).2.2 | (with_reducible refine cA_ ?_ _) | (with_reducible refine cN_ ?_ _) | (with_reducible refine cD_ ?_))); (case side2 => exact (Kd.S_reads' HO216.out).2.1); (case side3 => repeat (first | exact (Kd.S_reads' HO219.out).2.2 | (with_reducible refine cA_ ?_ _) | (with_reducible refine cN_ ?_ _) | (with_reducible refine cD_ ?_))); (case side4 => exact (Kd.S_reads' HO219.out).2.1); (case side5 => repeat (first | exact (Kd.R_reads' HO223.out).2.2 | (with_reducible refine cA_ ?_ _) | (with_reducible refine cN_ ?_ _) | (with_reducible refine cD_ ?_))); (case side6 => exact (Kd.R_reads' HO223.out).2.1); rintro e w23 ⟨rfl, hb⟩; refine ⟨_, rfl, ?_⟩; have n0_ := aM_ (Kd.S_below (by (with_reducible repeat (first | apply Kd.S_alloc | apply Kd.S_drewN | apply Kd.S_drew)); exact HO216.out) hb); have n1_ := aM_ (Kd.S_below (by (with_reducible repeat (first | apply Kd.S_alloc | apply Kd.S_drewN | apply Kd.S_drew)); exact HO219.out) hb); have n2_ := aM_ (Kd.R_below (by (with_reducible repeat (first | apply rA_ | apply rN_ | apply rD_)); exact HO223.out) hb); have n3_ := aM_ (blk_below (g := gb212) (o := .cells #[.slice A0_0 l0_0.length c0_0, .slice A0_1 l0_1.length c0_1, .int .i64 a0_2, .slice A0_3 l0_3.length c0_3, .bool a0_4] 26 (0, 0)) (by (with_reducible repeat (first | refine kN_ ?_ _ | refine kD_ ?_ | refine kA_ ?_ _)); exact BK212.out) hb); have n4_ := aM_ (bT_ (by repeat (first | (with_reducible first | exact HB.out | apply bA_ | apply bN_ | apply bD_ | refine bE_ ?_ GE212.out) | exact HB.out)) hb); clear HO216; clear HO219; clear HO223; clear BK212; clear HB; have HO216 := n0_; have HO219 := n1_; have HO223 := n2_; have BK212 := n3_; have HB := n4_; clear n0_ n1_ n2_ n3_ n4_; (try clear hb); (try clear hb2); (try clear hk); (try clear hi); have hcz24_0 : w23.cell? ⟨gb212, 0, none⟩ = some (.slice A0_0 l0_0.length c0_0) := (kC_ BK212.out 0).trans rfl; have hcz24_1 : w23.cell? ⟨gb212, 1, none⟩ = some (.slice A0_1 l0_1.length c0_1) := (kC_ BK212.out 1).trans rfl; have hcz24_2 : w23.cell? ⟨gb212, 2, none⟩ = some (.int .i64 a0_2) := (kC_ BK212.out 2).trans rfl; have hcz24_3 : w23.cell? ⟨gb212, 3, none⟩ = some (.slice A0_3 l0_3.length c0_3) := (kC_ BK212.out 3).trans rfl; have hcz24_4 : w23.cell? ⟨gb212, 4, none⟩ = some (.bool a0_4) := (kC_ BK212.out 4).trans rfl; have hfz24_0 := kF_ BK212.out 0; have hfz24_1 := kF_ BK212.out 1; have hfz24_2 := kF_ BK212.out 2; have hfz24_3 := kF_ BK212.out 3; have hfz24_4 := kF_ BK212.out 4) | ((with_reducible refine gate_callee (f := 16) rfl ?_); refine goesL_ (some 16) rfl rfl Try.func16 (by kernel_rfl) rfl #[.agg #[.slice A0_0 l0_0.length c0_0, .slice A0_1 l0_1.length c0_1, .int .i64 a0_2, .slice A0_3 l0_3.length c0_3, .bool a0_4]] rfl (by (try simp only [mA_, mC_, mN_]); first | done | rfl | (simp only [lD_, lT_]; rfl)) ?_; (with_reducible refine (laws_toDisk.calls k _ _ l0_0 _ _ l0_1 a0_2 _ _ l0_3 a0_4 t226 t229 t232 t233 t236 _ ?side1 ?side2 ?side3 ?side4 ?side5 ?side6 A9.out).mono ?_); (case side1 => repeat (first | exact (Kd.C_below HR0_0.out HB.out) | (with_reducible refine cA_ ?_ _) | (with_reducible refine cN_ ?_ _) | (with_reducible refine cD_ ?_))); (case side2 => exact HC0_0.out); (case side3 => repeat (first | exact (Kd.C_below HR0_1.out HB.out) | (with_reducible refine cA_ ?_ _) | (with_reducible refine cN_ ?_ _) | (with_reducible refine cD_ ?_))); (case side4 => exact HC0_1.out); (case side5 => repeat (first | exact (Kd.C_below HR0_3.out HB.out) | (with_reducible refine cA_ ?_ _) | (with_reducible refine cN_ ?_ _) | (with_reducible refine cD_ ?_))); (case side6 => exact HC0_3.out); rintro e w25 ⟨v227, v230, v234, rfl, ho0, ho1, ho2, hb⟩; refine ⟨_, rfl, ?_⟩; have n0_ := aM_ (Kd.S_elder' (by (with_reducible repeat (first | apply Kd.S_alloc | apply Kd.S_drewN | apply Kd.S_drew)); exact HO216.out) (Kd.S_base ho0) hb); have n1_ := aM_ (Kd.S_elder' (by (with_reducible repeat (first | apply Kd.S_alloc | apply Kd.S_drewN | apply Kd.S_drew)); exact HO219.out) (Kd.S_base ho1) hb); have n2_ := aM_ (Kd.R_elder' (by (with_reducible repeat (first | apply rA_ | apply rN_ | apply rD_)); exact HO223.out) (Kd.R_base ho2) hb); have n3_ := aM_ (Kd.S_lower (Kd.S_new' ho0 (Kd.S_lt (by (with_reducible repeat (first | apply Kd.S_alloc | apply Kd.S_drewN | apply Kd.S_drew)); exact HO216.out))) (bS_ (by repeat (first | (with_reducible first | exact HB.out | apply bA_ | apply bN_ | apply bD_ | refine bE_ ?_ GE212.out) | exact HB.out)))); have n4_ := aM_ (Kd.S_lower (Kd.S_new' ho1 (Kd.S_lt (by (with_reducible repeat (first | apply Kd.S_alloc | apply Kd.S_drewN | apply Kd.S_drew)); exact HO219.out))) (bS_ (by repeat (first | (with_reducible first | exact HB.out | apply bA_ | apply bN_ | apply bD_ | refine bE_ ?_ GE212.out) | exact HB.out)))); have n5_ := aM_ (Kd.R_lower (Kd.R_new' ho2 (Kd.R_lt (by (with_reducible repeat (first | apply rA_ | apply rN_ | apply rD_)); exact HO223.out))) (bS_ (by repeat (first | (with_reducible first | exact HB.out | apply bA_ | apply bN_ | apply bD_ | refine bE_ ?_ GE212.out) | exact HB.out)))); have n6_ := aM_ (blk_below (g := gb212) (o := .cells #[.slice A0_0 l0_0.length c0_0, .slice A0_1 l0_1.length c0_1, .int .i64 a0_2, .slice A0_3 l0_3.length c0_3, .bool a0_4] 26 (0, 0)) (by (with_reducible repeat (first | refine kN_ ?_ _ | refine kD_ ?_ | refine kA_ ?_ _)); exact BK212.out) hb); have n7_ := aM_ (bT_ (by repeat (first | (with_reducible first | exact HB.out | apply bA_ | apply bN_ | apply bD_ | refine bE_ ?_ GE212.out) | exact HB.out)) hb); clear HO216; clear HO219; clear HO223; clear BK212; clear HB; have HO216 := n0_; have HO219 := n1_; have HO223 := n2_; have HO228 := n3_; have HO231 := n4_; have HO235 := n5_; have BK212 := n6_; have HB := n7_; clear n0_ n1_ n2_ n3_ n4_ n5_ n6_ n7_; (try clear hb); (try clear hb2); (try clear hk); (try clear hi); (try clear ho0); (try clear ho1); (try clear ho2)) | ((with_reducible refine gate_dst (N := 5) rfl ?_); refine box_event ?hg (N := 5) ?hd (cs := #[.slice none 0 0, .slice none 0 0, .int .i64 0, .slice none 0 0, .bool false]) (t := 32) ?hr ?_; (case hd => rfl); (case hg => rfl); (case hr => first | (go_simp; done) | (go_simp; rfl)); intro gb237 hg w26 hbox hb; have n0_ := aM_ (Kd.S_below (by (with_reducible repeat (first | apply Kd.S_alloc | apply Kd.S_drewN | apply Kd.S_drew)); exact HO216.out) hb); have n1_ := aM_ (Kd.S_below (by (with_reducible repeat (first | apply Kd.S_alloc | apply Kd.S_drewN | apply Kd.S_drew)); exact HO219.out) hb); have n2_ := aM_ (Kd.R_below (by (with_reducible repeat (first | apply rA_ | apply rN_ | apply rD_)); exact HO223.out) hb); have n3_ := aM_ (Kd.S_below (by (with_reducible repeat (first | apply Kd.S_alloc | apply Kd.S_drewN | apply Kd.S_drew)); exact HO228.out) hb); have n4_ := aM_ (Kd.S_below (by (with_reducible repeat (first | apply Kd.S_alloc | apply Kd.S_drewN | apply Kd.S_drew)); exact HO231.out) hb); have n5_ := aM_ (Kd.R_below (by (with_reducible repeat (first | apply rA_ | apply rN_ | apply rD_)); exact HO235.out) hb); have n6_ := aM_ (blk_below (g := gb212) (o := .cells #[.slice A0_0 l0_0.length c0_0, .slice A0_1 l0_1.length c0_1, .int .i64 a0_2, .slice A0_3 l0_3.length c0_3, .bool a0_4] 26 (0, 0)) (by (with_reducible repeat (first | refine kN_ ?_ _ | refine kD_ ?_ | refine kA_ ?_ _)); exact BK212.out) hb); have n7_ := aM_ (bT_ (by repeat (first | (with_reducible first | exact HB.out | apply bA_ | apply bN_ | apply bD_ | refine bE_ ?_ GE212.out) | exact HB.out)) hb); have n8_ := aM_ (hbox); have n9_ := aM_ ((by rw [hg]; exact (bS_ (by repeat (first | (with_reducible first | exact HB.out | apply bA_ | apply bN_ | apply bD_ | refine bE_ ?_ GE212.out) | exact HB.out))) : w.heap.size ≤ gb237)); have n10_ := aM_ ((by rw [hg]; exact (bS_ (by repeat (first | (with_reducible first | exact HB.out | apply bA_ | apply bN_ | apply bD_ | refine bE_ ?_ GE212.out) | exact HB.out))) : w.heap.size ≤ gb237)); have n11_ := aM_ ((by rw [hg]; exact Nat.ne_of_lt (blk_lt (g := gb212) (o := .cells #[.slice A0_0 l0_0.length c0_0, .slice A0_1 l0_1.length c0_1, .int .i64 a0_2, .slice A0_3 l0_3.length c0_3, .bool a0_4] 26 (0, 0)) (by (with_reducible repeat (first | refine kN_ ?_ _ | refine kD_ ?_ | refine kA_ ?_ _)); exact BK212.out)) : gb212 ≠ gb237)); have n12_ := aM_ ((by rw [hg]; exact Nat.ne_of_gt (blk_lt (g := gb212) (o := .cells #[.slice A0_0 l0_0.length c0_0, .slice A0_1 l0_1.length c0_1, .int .i64 a0_2, .slice A0_3 l0_3.length c0_3, .bool a0_4] 26 (0, 0)) (by (with_reducible repeat (first | refine kN_ ?_ _ | refine kD_ ?_ | refine kA_ ?_ _)); exact BK212.out)) : gb237 ≠ gb212)); clear HO216; clear HO219; clear HO223; clear HO228; clear HO231; clear HO235; clear BK212; clear HB; have HO216 := n0_; have HO219 := n1_; have HO223 := n2_; have HO228 := n3_; have HO231 := n4_; have HO235 := n5_; have BK212 := n6_; have HB := n7_; have BK237 := n8_; have GW237 := n9_; have GE237 := n10_; have NB212_237 := n11_; have NB237_212 := n12_; clear n0_ n1_ n2_ n3_ n4_ n5_ n6_ n7_ n8_ n9_ n10_ n11_ n12_; clear hb hbox hg; obtain ⟨Ao27, co27, eo27⟩ := Kd.S_slice HO228.out; subst eo27; have hnb28 := NB237_212.out; have hnc28 := NB212_237.out; have hcz29_0 : w26.cell? ⟨gb237, 0, none⟩ = some (.slice none 0 0) := (kC_ BK237.out 0).trans rfl; have hcz29_1 : w26.cell? ⟨gb237, 1, none⟩ = some (.slice none 0 0) := (kC_ BK237.out 1).trans rfl; have hcz29_2 : w26.cell? ⟨gb237, 2, none⟩ = some (.int .i64 0) := (kC_ BK237.out 2).trans rfl; have hcz29_3 : w26.cell? ⟨gb237, 3, none⟩ = some (.slice none 0 0) := (kC_ BK237.out 3).trans rfl; have hcz29_4 : w26.cell? ⟨gb237, 4, none⟩ = some (.bool false) := (kC_ BK237.out 4).trans rfl; have hfz29_0 := kF_ BK237.out 0; have hfz29_1 := kF_ BK237.out 1; have hfz29_2 := kF_ BK237.out 2; have hfz29_3 := kF_ BK237.out 3; have hfz29_4 := kF_ BK237.out 4; obtain ⟨Ao30, co30, eo30⟩ := Kd.S_slice HO231.out; subst eo30; obtain ⟨Ao31, co31, eo31⟩ := Kd.R_slice HO235.out; subst eo31) | ((with_reducible refine gate_callee (f := 17) rfl ?_); refine goesL_ (some 18) rfl rfl Try.func17 (by kernel_rfl) rfl #[.agg #[.slice Ao27 t226.length co27, .slice Ao30 t229.length co30, .int .i64 t232, .slice Ao31 t233.length co31, .bool t236]] rfl (by (try simp only [mA_, mC_, mN_]); first | done | rfl | (simp only [lD_, lT_]; rfl)) ?_; (with_reducible refine (impl_DiskOk.calls k _ _ t226 _ _ t229 t232 _ _ t233 t236 t238 _ ?side1 ?side2 ?side3 ?side4 ?side5 ?side6 A10.out).mono ?_); (case side1 => refine (Kd.S_reads' (e := 43) (base := w.heap.size) (ok := fun k_ => (True ∧ some k_ ≠ (.slice Ao20 t214.length co20 : Value).ownBlock)) (n := t226.length) (c := co27) ?_).2.2; exact (by (with_reducible repeat (first | apply Kd.S_alloc | apply Kd.S_drewN | apply Kd.S_drew)); exact (Kd.S_mono (Kd.S_far (p := ⟨gb237, 4, none⟩) (Kd.S_far (p := ⟨gb237, 3, none⟩) (Kd.S_far (p := ⟨gb237, 2, none⟩) (Kd.S_far (p := ⟨gb237, 1, none⟩) (Kd.S_far (p := ⟨gb237, 0, none⟩) (Kd.S_types HO228.out BK237.out (by decide)) (fun _ hk => hk.2) (.slice Ao27 t226.length co27)) (fun _ hk => hk.2) (.slice Ao30 t229.length co30)) (fun _ hk => hk.2) (.int .i64 t232)) (fun _ hk => hk.2) (.slice Ao31 t233.length co31)) (fun _ hk => hk.2) (.bool t236)) (fun _ h_ => h_.1)))); (case side2 => exact (Kd.S_reads' HO228.out).2.1); (case side3 => refine (Kd.S_reads' (e := 58) (base := w.heap.size) (ok := fun k_ => (True ∧ some k_ ≠ (.slice Ao21 t217.length co21 : Value).ownBlock)) (n := t229.length) (c := co30) ?_).2.2; exact (by (with_reducible repeat (first | apply Kd.S_alloc | apply Kd.S_drewN | apply Kd.S_drew)); exact (Kd.S_mono (Kd.S_far (p := ⟨gb237, 4, none⟩) (Kd.S_far (p := ⟨gb237, 3, none⟩) (Kd.S_far (p := ⟨gb237, 2, none⟩) (Kd.S_far (p := ⟨gb237, 1, none⟩) (Kd.S_far (p := ⟨gb237, 0, none⟩) (Kd.S_types HO231.out BK237.out (by decide)) (fun _ hk => hk.2) (.slice Ao27 t226.length co27)) (fun _ hk => hk.2) (.slice Ao30 t229.length co30)) (fun _ hk => hk.2) (.int .i64 t232)) (fun _ hk => hk.2) (.slice Ao31 t233.length co31)) (fun _ hk => hk.2) (.bool t236)) (fun _ h_ => h_.1)))); (case side4 => exact (Kd.S_reads' HO231.out).2.1); (case side5 => refine (Kd.R_reads' (e := 78) (base := w.heap.size) (ok := fun k_ => (True ∧ some k_ ≠ (.slice Ao22 t221.length co22 : Value).ownBlock)) (n := t233.length) (c := co31) ?_).2.2; exact (by (with_reducible repeat (first | apply rA_ | apply rN_ | apply rD_)); exact (Kd.R_mono (Kd.R_far (p := ⟨gb237, 4, none⟩) (Kd.R_far (p := ⟨gb237, 3, none⟩) (Kd.R_far (p := ⟨gb237, 2, none⟩) (Kd.R_far (p := ⟨gb237, 1, none⟩) (Kd.R_far (p := ⟨gb237, 0, none⟩) (Kd.R_types HO235.out BK237.out (by decide)) (fun _ hk => hk.2) (.slice Ao27 t226.length co27)) (fun _ hk => hk.2) (.slice Ao30 t229.length co30)) (fun _ hk => hk.2) (.int .i64 t232)) (fun _ hk => hk.2) (.slice Ao31 t233.length co31)) (fun _ hk => hk.2) (.bool t236)) (fun _ h_ => h_.1)))); (case side6 => exact (Kd.R_reads' HO235.out).2.1); rintro e w32 ⟨rfl, hb⟩; refine ⟨_, rfl, ?_⟩; have n0_ := aM_ (Kd.S_below (by (with_reducible repeat (first | apply Kd.S_alloc | apply Kd.S_drewN | apply Kd.S_drew)); exact (Kd.S_mono (Kd.S_far (p := ⟨gb237, 4, none⟩) (Kd.S_far (p := ⟨gb237, 3, none⟩) (Kd.S_far (p := ⟨gb237, 2, none⟩) (Kd.S_far (p := ⟨gb237, 1, none⟩) (Kd.S_far (p := ⟨gb237, 0, none⟩) (Kd.S_types HO216.out BK237.out (by decide)) (fun _ hk => hk.2) (.slice Ao27 t226.length co27)) (fun _ hk => hk.2) (.slice Ao30 t229.length co30)) (fun _ hk => hk.2) (.int .i64 t232)) (fun _ hk => hk.2) (.slice Ao31 t233.length co31)) (fun _ hk => hk.2) (.bool t236)) (fun _ h_ => h_.1))) hb); have n1_ := aM_ (Kd.S_below (by (with_reducible repeat (first | apply Kd.S_alloc | apply Kd.S_drewN | apply Kd.S_drew)); exact (Kd.S_mono (Kd.S_far (p := ⟨gb237, 4, none⟩) (Kd.S_far (p := ⟨gb237, 3, none⟩) (Kd.S_far (p := ⟨gb237, 2, none⟩) (Kd.S_far (p := ⟨gb237, 1, none⟩) (Kd.S_far (p := ⟨gb237, 0, none⟩) (Kd.S_types HO219.out BK237.out (by decide)) (fun _ hk => hk.2) (.slice Ao27 t226.length co27)) (fun _ hk => hk.2) (.slice Ao30 t229.length co30)) (fun _ hk => hk.2) (.int .i64 t232)) (fun _ hk => hk.2) (.slice Ao31 t233.length co31)) (fun _ hk => hk.2) (.bool t236)) (fun _ h_ => h_.1))) hb); have n2_ := aM_ (Kd.R_below (by (with_reducible repeat (first | apply rA_ | apply rN_ | apply rD_)); exact (Kd.R_mono (Kd.R_far (p := ⟨gb237, 4, none⟩) (Kd.R_far (p := ⟨gb237, 3, none⟩) (Kd.R_far (p := ⟨gb237, 2, none⟩) (Kd.R_far (p := ⟨gb237, 1, none⟩) (Kd.R_far (p := ⟨gb237, 0, none⟩) (Kd.R_types HO223.out BK237.out (by decide)) (fun _ hk => hk.2) (.slice Ao27 t226.length co27)) (fun _ hk => hk.2) (.slice Ao30 t229.length co30)) (fun _ hk => hk.2) (.int .i64 t232)) (fun _ hk => hk.2) (.slice Ao31 t233.length co31)) (fun _ hk => hk.2) (.bool t236)) (fun _ h_ => h_.1))) hb); have n3_ := aM_ (Kd.S_below (by (with_reducible repeat (first | apply Kd.S_alloc | apply Kd.S_drewN | apply Kd.S_drew)); exact (Kd.S_mono (Kd.S_far (p := ⟨gb237, 4, none⟩) (Kd.S_far (p := ⟨gb237, 3, none⟩) (Kd.S_far (p := ⟨gb237, 2, none⟩) (Kd.S_far (p := ⟨gb237, 1, none⟩) (Kd.S_far (p := ⟨gb237, 0, none⟩) (Kd.S_types HO228.out BK237.out (by decide)) (fun _ hk => hk.2) (.slice Ao27 t226.length co27)) (fun _ hk => hk.2) (.slice Ao30 t229.length co30)) (fun _ hk => hk.2) (.int .i64 t232)) (fun _ hk => hk.2) (.slice Ao31 t233.length co31)) (fun _ hk => hk.2) (.bool t236)) (fun _ h_ => h_.1))) hb); have n4_ := aM_ (Kd.S_below (by (with_reducible repeat (first | apply Kd.S_alloc | apply Kd.S_drewN | apply Kd.S_drew)); exact (Kd.S_mono (Kd.S_far (p := ⟨gb237, 4, none⟩) (Kd.S_far (p := ⟨gb237, 3, none⟩) (Kd.S_far (p := ⟨gb237, 2, none⟩) (Kd.S_far (p := ⟨gb237, 1, none⟩) (Kd.S_far (p := ⟨gb237, 0, none⟩) (Kd.S_types HO231.out BK237.out (by decide)) (fun _ hk => hk.2) (.slice Ao27 t226.length co27)) (fun _ hk => hk.2) (.slice Ao30 t229.length co30)) (fun _ hk => hk.2) (.int .i64 t232)) (fun _ hk => hk.2) (.slice Ao31 t233.length co31)) (fun _ hk => hk.2) (.bool t236)) (fun _ h_ => h_.1))) hb); have n5_ := aM_ (Kd.R_below (by (with_reducible repeat (first | apply rA_ | apply rN_ | apply rD_)); exact (Kd.R_mono (Kd.R_far (p := ⟨gb237, 4, none⟩) (Kd.R_far (p := ⟨gb237, 3, none⟩) (Kd.R_far (p := ⟨gb237, 2, none⟩) (Kd.R_far (p := ⟨gb237, 1, none⟩) (Kd.R_far (p := ⟨gb237, 0, none⟩) (Kd.R_types HO235.out BK237.out (by decide)) (fun _ hk => hk.2) (.slice Ao27 t226.length co27)) (fun _ hk => hk.2) (.slice Ao30 t229.length co30)) (fun _ hk => hk.2) (.int .i64 t232)) (fun _ hk => hk.2) (.slice Ao31 t233.length co31)) (fun _ hk => hk.2) (.bool t236)) (fun _ h_ => h_.1))) hb); have n6_ := aM_ (blk_below (g := gb212) (o := .cells #[.slice A0_0 l0_0.length c0_0, .slice A0_1 l0_1.length c0_1, .int .i64 a0_2, .slice A0_3 l0_3.length c0_3, .bool a0_4] 26 (0, 0)) (by (with_reducible repeat (first | refine kN_ ?_ _ | refine kD_ ?_ | refine kA_ ?_ _)); refine blk_far ?_ NB212_237.out _; (with_reducible repeat (first | refine kN_ ?_ _ | refine kD_ ?_ | refine kA_ ?_ _)); refine blk_far ?_ NB212_237.out _; (with_reducible repeat (first | refine kN_ ?_ _ | refine kD_ ?_ | refine kA_ ?_ _)); refine blk_far ?_ NB212_237.out _; (with_reducible repeat (first | refine kN_ ?_ _ | refine kD_ ?_ | refine kA_ ?_ _)); refine blk_far ?_ NB212_237.out _; (with_reducible repeat (first | refine kN_ ?_ _ | refine kD_ ?_ | refine kA_ ?_ _)); refine blk_far ?_ NB212_237.out _; (with_reducible repeat (first | refine kN_ ?_ _ | refine kD_ ?_ | refine kA_ ?_ _)); exact BK212.out) hb); have n7_ := aM_ (blk_below (g := gb237) (o := .cells #[.slice Ao27 t226.length co27, .slice Ao30 t229.length co30, .int .i64 t232, .slice Ao31 t233.length co31, .bool t236] 32 (0, 0)) (by (with_reducible repeat (first | refine kN_ ?_ _ | refine kD_ ?_ | refine kA_ ?_ _)); refine kP_ (cs := #[.slice Ao27 t226.length co27, .slice Ao30 t229.length co30, .int .i64 t232, .slice Ao31 t233.length co31, .bool false]) ?_ 4 _ rfl; (with_reducible repeat (first | refine kN_ ?_ _ | refine kD_ ?_ | refine kA_ ?_ _)); refine kP_ (cs := #[.slice Ao27 t226.length co27, .slice Ao30 t229.length co30, .int .i64 t232, .slice none 0 0, .bool false]) ?_ 3 _ rfl; (with_reducible repeat (first | refine kN_ ?_ _ | refine kD_ ?_ | refine kA_ ?_ _)); refine kP_ (cs := #[.slice Ao27 t226.length co27, .slice Ao30 t229.length co30, .int .i64 0, .slice none 0 0, .bool false]) ?_ 2 _ rfl; (with_reducible repeat (first | refine kN_ ?_ _ | refine kD_ ?_ | refine kA_ ?_ _)); refine kP_ (cs := #[.slice Ao27 t226.length co27, .slice none 0 0, .int .i64 0, .slice none 0 0, .bool false]) ?_ 1 _ rfl; (with_reducible repeat (first | refine kN_ ?_ _ | refine kD_ ?_ | refine kA_ ?_ _)); refine kP_ (cs := #[.slice none 0 0, .slice none 0 0, .int .i64 0, .slice none 0 0, .bool false]) ?_ 0 _ rfl; (with_reducible repeat (first | refine kN_ ?_ _ | refine kD_ ?_ | refine kA_ ?_ _)); exact BK237.out) hb); have n8_ := aM_ (bT_ (by repeat (first | (with_reducible first | exact HB.out | apply bA_ | apply bN_ | apply bD_ | refine bE_ ?_ GE212.out | refine bE_ ?_ GE237.out) | exact HB.out)) hb); clear HO216; clear HO219; clear HO223; clear HO228; clear HO231; clear HO235; clear BK212; clear BK237; clear HB; have HO216 := n0_; have HO219 := n1_; have HO223 := n2_; have HO228 := n3_; have HO231 := n4_; have HO235 := n5_; have BK212 := n6_; have BK237 := n7_; have HB := n8_; clear n0_ n1_ n2_ n3_ n4_ n5_ n6_ n7_ n8_; (try clear hb); (try clear hb2); (try clear hk); (try clear hi)))
    have n0_ := aM_ (Kd.S_drew HO216.out)
    have n1_ := aM_ (Kd.S_drew HO219.out)
    have n2_ := aM_ (rD_ HO223.out)
    have n3_ := aM_ (Kd.S_drew HO228.out)
    have n4_ := aM_ (Kd.S_drew HO231.out)
    have n5_ := aM_ (rD_ HO235.out)
    have n6_ := aM_ (kD_ BK212.out)
    have n7_ := aM_ (kD_ BK237.out)
    have n8_ := aM_ (bD_ HB.out)
    clear HO216
    clear HO219
    clear HO223
    clear HO228
    clear HO231
    clear HO235
    clear BK212
    clear BK237
    clear HB
    have HO216 := n0_
    have HO219 := n1_
    have HO223 := n2_
    have HO228 := n3_
    have HO231 := n4_
    have HO235 := n5_
    have BK212 := n6_
    have BK237 := n7_
    have HB := n8_
    clear n0_ n1_ n2_ n3_ n4_ n5_ n6_ n7_ n8_
    refine start_ (n := 5) (S := fun w' => w'.cell? ⟨gb237, 0, none⟩ = some (.slice Ao27 t226.length co27) ∧ w'.cell? ⟨gb237, 1, none⟩ = some (.slice Ao30 t229.length co30) ∧ w'.cell? ⟨gb237, 2, none⟩ = some (.int .i64 t232) ∧ w'.cell? ⟨gb237, 3, none⟩ = some (.slice Ao31 t233.length co31) ∧ w'.cell? ⟨gb237, 4, none⟩ = some (.bool t236) ∧ w'.cell? ⟨gb212, 0, none⟩ = some (.slice A0_0 l0_0.length c0_0) ∧ w'.cell? ⟨gb212, 1, none⟩ = some (.slice A0_1 l0_1.length c0_1) ∧ w'.cell? ⟨gb212, 2, none⟩ = some (.int .i64 a0_2) ∧ w'.cell? ⟨gb212, 3, none⟩ = some (.slice A0_3 l0_3.length c0_3) ∧ w'.cell? ⟨gb212, 4, none⟩ = some (.bool a0_4)) (ds := []) #[false, false, false, false, false] (by kernel_rfl) rfl rfl ⟨(kC_ BK237.out 0).trans rfl, (kC_ BK237.out 1).trans rfl, (kC_ BK237.out 2).trans rfl, (kC_ BK237.out 3).trans rfl, (kC_ BK237.out 4).trans rfl, (kC_ BK212.out 0).trans rfl, (kC_ BK212.out 1).trans rfl, (kC_ BK212.out 2).trans rfl, (kC_ BK212.out 3).trans rfl, (kC_ BK212.out 4).trans rfl⟩ (fun hHeld => ?_)
    generalize w32.drew = w33 at HO216 HO219 HO223 HO228 HO231 HO235 BK212 BK237 HB hHeld ⊢
    refine take_ (i := 0) (N := some 22) (v := ?_) (a' := ?_) #[true, false, false, false, false] rfl rfl (by kernel_rfl) (fun _ _ _ h => h) (Or.inl ⟨by rfl, ?_⟩) hHeld ?_ ?_
    rotate_left
    ·rintro w' ⟨s0, s1, s2, s3, s4, s5, s6, s7, s8, s9⟩
     go_simp
     with_reducible rfl
    rotate_left
    ·simp only [Act.put, sI_, sZ_, sS_, i64_w, i32_w]
     rfl
    refine take_ (i := 1) (N := some 23) (v := ?_) (a' := ?_) #[true, true, false, false, false] rfl rfl (by kernel_rfl) (fun _ _ _ h => h) (Or.inl ⟨by rfl, ?_⟩) hHeld ?_ ?_
    rotate_left
    ·rintro w' ⟨s0, s1, s2, s3, s4, s5, s6, s7, s8, s9⟩
     go_simp
     with_reducible rfl
    rotate_left
    ·simp only [Act.put, sI_, sZ_, sS_, i64_w, i32_w]
     rfl
    refine one_ (i := 2) (N := some 24) #[true, true, true, false, false] rfl rfl (by kernel_rfl) (by decide) (fun K hK => ?_)
    refine goes_ Try.func16 (by kernel_rfl) rfl #[.agg #[.slice A0_0 l0_0.length c0_0, .slice A0_1 l0_1.length c0_1, .int .i64 a0_2, .slice A0_3 l0_3.length c0_3, .bool a0_4]] (by rfl) rfl rfl (by (try simp only [mA_, mC_, mN_]); first | done | rfl | (simp only [lD_, lT_]; rfl)) ?_
    with_reducible refine (laws_toDisk.calls k _ _ l0_0 _ _ l0_1 a0_2 _ _ l0_3 a0_4 t239 t242 t245 t246 t249 _ ?side1 ?side2 ?side3 ?side4 ?side5 ?side6 A12.out).mono ?_
    (case side1 => repeat (first | exact (Kd.C_below HR0_0.out HB.out) | (with_reducible refine cA_ ?_ _) | (with_reducible refine cN_ ?_ _) | (with_reducible refine cD_ ?_)))
    (case side2 => exact HC0_0.out)
    (case side3 => repeat (first | exact (Kd.C_below HR0_1.out HB.out) | (with_reducible refine cA_ ?_ _) | (with_reducible refine cN_ ?_ _) | (with_reducible refine cD_ ?_)))
    (case side4 => exact HC0_1.out)
    (case side5 => repeat (first | exact (Kd.C_below HR0_3.out HB.out) | (with_reducible refine cA_ ?_ _) | (with_reducible refine cN_ ?_ _) | (with_reducible refine cD_ ?_)))
    (case side6 => exact HC0_3.out)
    rintro e w34 ⟨v240, v243, v247, rfl, ho0, ho1, ho2, hb⟩
    refine ⟨_, rfl, ?_⟩
    have n0_ := aM_ (Kd.S_elder' (by (with_reducible repeat (first | apply Kd.S_alloc | apply Kd.S_drewN | apply Kd.S_drew)); exact HO216.out) (Kd.S_base ho0) hb)
    have n1_ := aM_ (Kd.S_elder' (by (with_reducible repeat (first | apply Kd.S_alloc | apply Kd.S_drewN | apply Kd.S_drew)); exact HO219.out) (Kd.S_base ho1) hb)
    have n2_ := aM_ (Kd.R_elder' (by (with_reducible repeat (first | apply rA_ | apply rN_ | apply rD_)); exact HO223.out) (Kd.R_base ho2) hb)
    have n3_ := aM_ (Kd.S_elder' (by (with_reducible repeat (first | apply Kd.S_alloc | apply Kd.S_drewN | apply Kd.S_drew)); exact HO228.out) (Kd.S_base ho0) hb)
    have n4_ := aM_ (Kd.S_elder' (by (with_reducible repeat (first | apply Kd.S_alloc | apply Kd.S_drewN | apply Kd.S_drew)); exact HO231.out) (Kd.S_base ho1) hb)
    have n5_ := aM_ (Kd.R_elder' (by (with_reducible repeat (first | apply rA_ | apply rN_ | apply rD_)); exact HO235.out) (Kd.R_base ho2) hb)
    have n6_ := aM_ (Kd.S_lower (Kd.S_new' (Kd.S_new' ho0 (Kd.S_lt (by (with_reducible repeat (first | apply Kd.S_alloc | apply Kd.S_drewN | apply Kd.S_drew)); exact HO216.out))) (Kd.S_lt (by (with_reducible repeat (first | apply Kd.S_alloc | apply Kd.S_drewN | apply Kd.S_drew)); exact HO228.out))) (bS_ (by repeat (first | (with_reducible first | exact HB.out | apply bA_ | apply bN_ | apply bD_ | refine bE_ ?_ GE212.out | refine bE_ ?_ GE237.out) | exact HB.out))))
    have n7_ := aM_ (Kd.S_lower (Kd.S_new' (Kd.S_new' ho1 (Kd.S_lt (by (with_reducible repeat (first | apply Kd.S_alloc | apply Kd.S_drewN | apply Kd.S_drew)); exact HO219.out))) (Kd.S_lt (by (with_reducible repeat (first | apply Kd.S_alloc | apply Kd.S_drewN | apply Kd.S_drew)); exact HO231.out))) (bS_ (by repeat (first | (with_reducible first | exact HB.out | apply bA_ | apply bN_ | apply bD_ | refine bE_ ?_ GE212.out | refine bE_ ?_ GE237.out) | exact HB.out))))
    have n8_ := aM_ (Kd.R_lower (Kd.R_new' (Kd.R_new' ho2 (Kd.R_lt (by (with_reducible repeat (first | apply rA_ | apply rN_ | apply rD_)); exact HO223.out))) (Kd.R_lt (by (with_reducible repeat (first | apply rA_ | apply rN_ | apply rD_)); exact HO235.out))) (bS_ (by repeat (first | (with_reducible first | exact HB.out | apply bA_ | apply bN_ | apply bD_ | refine bE_ ?_ GE212.out | refine bE_ ?_ GE237.out) | exact HB.out))))
    have n9_ := aM_ (blk_below (g := gb212) (o := .cells #[.slice A0_0 l0_0.length c0_0, .slice A0_1 l0_1.length c0_1, .int .i64 a0_2, .slice A0_3 l0_3.length c0_3, .bool a0_4] 26 (0, 0)) (by (with_reducible repeat (first | refine kN_ ?_ _ | refine kD_ ?_ | refine kA_ ?_ _)); exact BK212.out) hb)
    have n10_ := aM_ (blk_below (g := gb237) (o := .cells #[.slice Ao27 t226.length co27, .slice Ao30 t229.length co30, .int .i64 t232, .slice Ao31 t233.length co31, .bool t236] 32 (0, 0)) (by (with_reducible repeat (first | refine kN_ ?_ _ | refine kD_ ?_ | refine kA_ ?_ _)); exact BK237.out) hb)
    have n11_ := aM_ (bT_ (by repeat (first | (with_reducible first | exact HB.out | apply bA_ | apply bN_ | apply bD_ | refine bE_ ?_ GE212.out | refine bE_ ?_ GE237.out) | exact HB.out)) hb)
    clear HO216
    clear HO219
    clear HO223
    clear HO228
    clear HO231
    clear HO235
    clear BK212
    clear BK237
    clear HB
    have HO216 := n0_
    have HO219 := n1_
    have HO223 := n2_
    have HO228 := n3_
    have HO231 := n4_
    have HO235 := n5_
    have HO241 := n6_
    have HO244 := n7_
    have HO248 := n8_
    have BK212 := n9_
    have BK237 := n10_
    have HB := n11_
    clear n0_ n1_ n2_ n3_ n4_ n5_ n6_ n7_ n8_ n9_ n10_ n11_
    (try clear hb)
    (try clear hb2)
    (try clear hk)
    (try clear hi)
    (try clear ho0)
    (try clear ho1)
    (try clear ho2)
    obtain ⟨Ao35, co35, eo35⟩ := Kd.S_slice HO241.out
    (first | subst eo35 | (injection eo35 with f1_ f2_ f3_; have f4_ := f1_.symm; have f5_ := f3_.symm; clear f1_ f2_ f3_; subst f4_; subst f5_))
    obtain ⟨Ao36, co36, eo36⟩ := Kd.S_slice HO244.out
    (first | subst eo36 | (injection eo36 with f1_ f2_ f3_; have f4_ := f1_.symm; have f5_ := f3_.symm; clear f1_ f2_ f3_; subst f4_; subst f5_))
    obtain ⟨Ao37, co37, eo37⟩ := Kd.R_slice HO248.out
    (first | subst eo37 | (injection eo37 with f1_ f2_ f3_; have f4_ := f1_.symm; have f5_ := f3_.symm; clear f1_ f2_ f3_; subst f4_; subst f5_))
    refine hK.out _ _ ⟨(kC_ BK237.out 0).trans rfl, (kC_ BK237.out 1).trans rfl, (kC_ BK237.out 2).trans rfl, (kC_ BK237.out 3).trans rfl, (kC_ BK237.out 4).trans rfl, (kC_ BK212.out 0).trans rfl, (kC_ BK212.out 1).trans rfl, (kC_ BK212.out 2).trans rfl, (kC_ BK212.out 3).trans rfl, (kC_ BK212.out 4).trans rfl⟩ (fun hHeld => ?_)
    clear hK K
    refine norm_ (a' := ?_) ?_ ?_
    rotate_left
    ·show Act.put _ (some 24) _ = _
     simp only [Act.put, sI_, sZ_, sS_, i64_w, i32_w]
     rfl
    refine one_ (i := 3) (N := some 25) #[true, true, true, true, false] rfl rfl (by kernel_rfl) (by decide) (fun K hK => ?_)
    refine goes_ Try.func18 (by kernel_rfl) rfl #[.agg #[.slice Ao27 t226.length co27, .slice Ao30 t229.length co30, .int .i64 t232, .slice Ao31 t233.length co31, .bool t236], .agg #[.slice Ao35 t239.length co35, .slice Ao36 t242.length co36, .int .i64 t245, .slice Ao37 t246.length co37, .bool t249]] (by rfl) rfl rfl (by (try simp only [mA_, mC_, mN_]); first | done | rfl | (simp only [lD_, lT_]; rfl)) ?_
    with_reducible refine (laws_eqDisk.calls k _ _ t226 _ _ t229 t232 _ _ t233 t236 _ _ t239 _ _ t242 t245 _ _ t246 t249 true _ ?side1 ?side2 ?side3 ?side4 ?side5 ?side6 ?side7 ?side8 ?side9 ?side10 ?side11 ?side12 A13.out).mono ?_
    (case side1 => repeat (first | exact (Kd.S_reads' HO228.out).2.2 | (with_reducible refine cA_ ?_ _) | (with_reducible refine cN_ ?_ _) | (with_reducible refine cD_ ?_)))
    (case side2 => exact (Kd.S_reads' HO228.out).2.1)
    (case side3 => repeat (first | exact (Kd.S_reads' HO231.out).2.2 | (with_reducible refine cA_ ?_ _) | (with_reducible refine cN_ ?_ _) | (with_reducible refine cD_ ?_)))
    (case side4 => exact (Kd.S_reads' HO231.out).2.1)
    (case side5 => repeat (first | exact (Kd.R_reads' HO235.out).2.2 | (with_reducible refine cA_ ?_ _) | (with_reducible refine cN_ ?_ _) | (with_reducible refine cD_ ?_)))
    (case side6 => exact (Kd.R_reads' HO235.out).2.1)
    (case side7 => repeat (first | exact (Kd.S_reads' HO241.out).2.2 | (with_reducible refine cA_ ?_ _) | (with_reducible refine cN_ ?_ _) | (with_reducible refine cD_ ?_)))
    (case side8 => exact (Kd.S_reads' HO241.out).2.1)
    (case side9 => repeat (first | exact (Kd.S_reads' HO244.out).2.2 | (with_reducible refine cA_ ?_ _) | (with_reducible refine cN_ ?_ _) | (with_reducible refine cD_ ?_)))
    (case side10 => exact (Kd.S_reads' HO244.out).2.1)
    (case side11 => repeat (first | exact (Kd.R_reads' HO248.out).2.2 | (with_reducible refine cA_ ?_ _) | (with_reducible refine cN_ ?_ _) | (with_reducible refine cD_ ?_)))
    (case side12 => exact (Kd.R_reads' HO248.out).2.1)
    rintro e w38 ⟨rfl, hb⟩
    refine ⟨_, rfl, ?_⟩
    have n0_ := aM_ (Kd.S_below (by (with_reducible repeat (first | apply Kd.S_alloc | apply Kd.S_drewN | apply Kd.S_drew)); exact HO216.out) hb)
    have n1_ := aM_ (Kd.S_below (by (with_reducible repeat (first | apply Kd.S_alloc | apply Kd.S_drewN | apply Kd.S_drew)); exact HO219.out) hb)
    have n2_ := aM_ (Kd.R_below (by (with_reducible repeat (first | apply rA_ | apply rN_ | apply rD_)); exact HO223.out) hb)
    have n3_ := aM_ (Kd.S_below (by (with_reducible repeat (first | apply Kd.S_alloc | apply Kd.S_drewN | apply Kd.S_drew)); exact HO228.out) hb)
    have n4_ := aM_ (Kd.S_below (by (with_reducible repeat (first | apply Kd.S_alloc | apply Kd.S_drewN | apply Kd.S_drew)); exact HO231.out) hb)
    have n5_ := aM_ (Kd.R_below (by (with_reducible repeat (first | apply rA_ | apply rN_ | apply rD_)); exact HO235.out) hb)
    have n6_ := aM_ (Kd.S_below (by (with_reducible repeat (first | apply Kd.S_alloc | apply Kd.S_drewN | apply Kd.S_drew)); exact HO241.out) hb)
    have n7_ := aM_ (Kd.S_below (by (with_reducible repeat (first | apply Kd.S_alloc | apply Kd.S_drewN | apply Kd.S_drew)); exact HO244.out) hb)
    have n8_ := aM_ (Kd.R_below (by (with_reducible repeat (first | apply rA_ | apply rN_ | apply rD_)); exact HO248.out) hb)
    have n9_ := aM_ (blk_below (g := gb212) (o := .cells #[.slice A0_0 l0_0.length c0_0, .slice A0_1 l0_1.length c0_1, .int .i64 a0_2, .slice A0_3 l0_3.length c0_3, .bool a0_4] 26 (0, 0)) (by (with_reducible repeat (first | refine kN_ ?_ _ | refine kD_ ?_ | refine kA_ ?_ _)); exact BK212.out) hb)
    have n10_ := aM_ (blk_below (g := gb237) (o := .cells #[.slice Ao27 t226.length co27, .slice Ao30 t229.length co30, .int .i64 t232, .slice Ao31 t233.length co31, .bool t236] 32 (0, 0)) (by (with_reducible repeat (first | refine kN_ ?_ _ | refine kD_ ?_ | refine kA_ ?_ _)); exact BK237.out) hb)
    have n11_ := aM_ (bT_ (by repeat (first | (with_reducible first | exact HB.out | apply bA_ | apply bN_ | apply bD_ | refine bE_ ?_ GE212.out | refine bE_ ?_ GE237.out) | exact HB.out)) hb)
    clear HO216
    clear HO219
    clear HO223
    clear HO228
    clear HO231
    clear HO235
    clear HO241
    clear HO244
    clear HO248
    clear BK212
    clear BK237
    clear HB
    have HO216 := n0_
    have HO219 := n1_
    have HO223 := n2_
    have HO228 := n3_
    have HO231 := n4_
    have HO235 := n5_
    have HO241 := n6_
    have HO244 := n7_
    have HO248 := n8_
    have BK212 := n9_
    have BK237 := n10_
    have HB := n11_
    clear n0_ n1_ n2_ n3_ n4_ n5_ n6_ n7_ n8_ n9_ n10_ n11_
    (try clear hb)
    (try clear hb2)
    (try clear hk)
    (try clear hi)
    refine hK.out _ _ ⟨(kC_ BK237.out 0).trans rfl, (kC_ BK237.out 1).trans rfl, (kC_ BK237.out 2).trans rfl, (kC_ BK237.out 3).trans rfl, (kC_ BK237.out 4).trans rfl, (kC_ BK212.out 0).trans rfl, (kC_ BK212.out 1).trans rfl, (kC_ BK212.out 2).trans rfl, (kC_ BK212.out 3).trans rfl, (kC_ BK212.out 4).trans rfl⟩ (fun hHeld => ?_)
    clear hK K
    refine norm_ (a' := ?_) ?_ ?_
    rotate_left
    ·show Act.put _ (some 25) _ = _
     simp only [Act.put, sI_, sZ_, sS_, i64_w, i32_w]
     rfl
    refine pure_ (i := 4) (N := some 26) (v := ?_) (a' := ?_) #[true, true, true, true, true] rfl rfl (by kernel_rfl) (fun _ _ _ h => h) (Or.inl ⟨by rfl, ?_⟩) ?_ ?_
    rotate_left
    ·intro w'
     go_simp
     with_reducible rfl
    rotate_left
    ·simp only [Act.put, sI_, sZ_, sS_, i64_w, i32_w]
     rfl
    refine done_ (by kernel_rfl) ?_
    try go_wp2
    go_ret
    exact ⟨by first | rfl | (simp [errW_none, errW_some] <;> rfl) | (simp [*, errW_none, errW_some] <;> rfl), by repeat (first | (with_reducible first | exact HB.out | apply bA_ | apply bN_ | apply bD_ | refine bE_ ?_ GE212.out | refine bE_ ?_ GE237.out) | exact HB.out)⟩
   ·replace c14 := Bool.eq_false_iff.mpr c14
    subst c14
    have H1 : (some false) = some r := by rw [if_neg (show ¬ (false = true) by decide)] at H; exact H
    clear H
    have H := H1
    clear H1
    exact absurd (H.trans (congrArg some hr_.out)) (by simp)

end Go.Proofs.Yticedidmodmdnaa.PFnExactDiskOk
