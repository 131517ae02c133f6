-- Written by a program of this session, which builds on the kit's print
import Derived.Test.YtllgmgpfdnofmaaZLXPFnLexedx0
import Derived.Test.YtllgmgpfdnofmaaZLXPFnLexedx2
import Derived.Test.YtllgmgpfdnofmaaZLXPFnLexedx4
namespace Go.Proofs.Ytllgmgpfdnofmaa.PFnLexed
open Go.RowKit Go.Proofs.YtllgmgpfdnofmaaW.PrintWords Go.Proofs.YtllgmgpfdnofmaaW.PrintLast Go.Proofs.YtllgmgpfdnofmaaW.PrintMore Go.Proofs.Ytllgmgpfdnofmaa.Xtra
attribute [local go_sem] max2_int min2_int max_two min_two max_three min_three max_four min_four str_leq str_gtr str_geq setCell_drewN cell_set2 cell_set3   -- for this text's walks alone
set_option linter.unusedVariables false
set_option linter.unusedSimpArgs false

/-! ### spec_Lex: function 57 -/
mutual
def spec_Lex.l0 : Nat → ByteArray → List (S73) → Int → Option ((List (S73)) × Int)
 | 0, _, _, _ => none
 | k + 1, x0, x4, x5 => if x5 < (x0.size : Int) then (if 0 ≤ x5 then (if (bt x0 x5) = 32 then (spec_Lex.j1 k x0 x4 x5 (bt x0 x5) true) else (if (bt x0 x5) = 9 then (spec_Lex.j1 k x0 x4 x5 (bt x0 x5) true) else (if (bt x0 x5) = 10 then (spec_Lex.j1 k x0 x4 x5 (bt x0 x5) true) else (spec_Lex.j1 k x0 x4 x5 (bt x0 x5) ((bt x0 x5) == 13))))) else (none)) else (some (x4, (-1)))
def spec_Lex.j1 : Nat → ByteArray → List (S73) → Int → Int → Bool → Option ((List (S73)) × Int)
 | 0, _, _, _, _, _ => none
 | k + 1, x0, x4, x5, x6, x30 => if x30 = true then (spec_Lex.l0 k x0 x4 (wrap64 (x5 + 1))) else ((spec_l8Small.f x6).bind fun t229 => (if t229 = true then (spec_Lex.l1 k x0 x4 x5 (wrap64 (x5 + 1)) 1 (⟨#[]⟩ : ByteArray)) else (if 0 ≤ x5 then (if x5 ≤ (wrap64 (x5 + 1)) then (if (wrap64 (x5 + 1)) ≤ (x0.size : Int) then ((spec_TokenOk.f k 2 (x0.extract (x5 : Int).toNat ((wrap64 (x5 + 1)) : Int).toNat)).bind fun t252 => (if t252 = true then (if (x4.length : Int) = 500 then (some ((([] : List (S73))), x5)) else (if x4.length < 5864062014805 then (spec_Lex.l0 k x0 (x4 ++ [(⟨2, x0.extract (x5 : Int).toNat ((wrap64 (x5 + 1)) : Int).toNat⟩ : S73)]) (wrap64 (x5 + 1))) else (none))) else (some ((([] : List (S73))), x5)))) else (none)) else (none)) else (none))))
def spec_Lex.l1 : Nat → ByteArray → List (S73) → Int → Int → Int → ByteArray → Option ((List (S73)) × Int)
 | 0, _, _, _, _, _, _ => none
 | k + 1, x0, x4, x5, x7, x229000, x229001 => if x7 < (x0.size : Int) then (if 0 ≤ x7 then ((spec_l8Small.f (bt x0 x7)).bind fun t230 => (if t230 = true then (spec_Lex.l1 k x0 x4 x5 (wrap64 (x7 + 1)) x229000 x229001) else ((spec_l2Digit.f (bt x0 x7)).bind fun t231 => (if t231 = true then (spec_Lex.l1 k x0 x4 x5 (wrap64 (x7 + 1)) x229000 x229001) else (if 0 ≤ x5 then (if x5 ≤ x7 then (if x7 ≤ (x0.size : Int) then ((spec_TokenOk.f k x229000 (x0.extract (x5 : Int).toNat (x7 : Int).toNat)).bind fun t232 => (if t232 = true then (if (x4.length : Int) = 500 then (some ((([] : List (S73))), x5)) else (if x4.length < 5864062014805 then (spec_Lex.l0 k x0 (x4 ++ [(⟨x229000, x0.extract (x5 : Int).toNat (x7 : Int).toNat⟩ : S73)]) x7) else (none))) else (some ((([] : List (S73))), x5)))) else (none)) else (none)) else (none)))))) else (none)) else (if 0 ≤ x5 then (if x5 ≤ x7 then (if x7 ≤ (x0.size : Int) then ((spec_TokenOk.f k x229000 (x0.extract (x5 : Int).toNat (x7 : Int).toNat)).bind fun t242 => (if t242 = true then (if (x4.length : Int) = 500 then (some ((([] : List (S73))), x5)) else (if x4.length < 5864062014805 then (spec_Lex.l0 k x0 (x4 ++ [(⟨x229000, x0.extract (x5 : Int).toNat (x7 : Int).toNat⟩ : S73)]) x7) else (none))) else (some ((([] : List (S73))), x5)))) else (none)) else (none)) else (none))
end
def spec_Lex.f (k : Nat) (a0 : ByteArray) : Option ((List (S73)) × Int) := spec_Lex.l0 k a0 (([] : List (S73))) 0
theorem spec_Lex.mono_l : ∀ k, (∀ y0 y1 y2, LeO (spec_Lex.l0 k y0 y1 y2) (spec_Lex.l0 (k + 1) y0 y1 y2)) ∧ (∀ y0 y1 y2 y3 y4, LeO (spec_Lex.j1 k y0 y1 y2 y3 y4) (spec_Lex.j1 (k + 1) y0 y1 y2 y3 y4)) ∧ (∀ y0 y1 y2 y3 y4 y5, LeO (spec_Lex.l1 k y0 y1 y2 y3 y4 y5) (spec_Lex.l1 (k + 1) y0 y1 y2 y3 y4 y5))
 | 0 => ⟨fun _ _ _ r h => by simp [spec_Lex.l0] at h, fun _ _ _ _ _ r h => by simp [spec_Lex.j1] at h, fun _ _ _ _ _ _ r h => by simp [spec_Lex.l1] at h⟩
 | k + 1 => by
  obtain ⟨ih0, ih1, ih2⟩ := spec_Lex.mono_l k
  refine ⟨?_, ?_, ?_⟩
  ·intro y0 y1 y2
   unfold spec_Lex.l0
   repeat' first
   | (with_reducible exact ih0 _ _ _)
   | (with_reducible exact ih1 _ _ _ _ _)
   | (with_reducible exact ih2 _ _ _ _ _ _)
   | (with_reducible exact spec_TokenOk.mono _ _ _)
   | (with_reducible exact LeO.refl _)
   | (with_reducible exact LeO.none _)
   | (with_reducible refine LeO.ite ?_ ?_)
   | (with_reducible refine LeO.bind ?_ (fun _ => ?_))
   | exact ih0 _ _ _
   | exact ih1 _ _ _ _ _
   | exact ih2 _ _ _ _ _ _
   | exact spec_TokenOk.mono _ _ _
   | exact LeO.none _
   | refine LeO.ite ?_ ?_
   | refine LeO.bind ?_ (fun _ => ?_)
  ·intro y0 y1 y2 y3 y4
   unfold spec_Lex.j1
   repeat' first
   | (with_reducible exact ih0 _ _ _)
   | (with_reducible exact ih1 _ _ _ _ _)
   | (with_reducible exact ih2 _ _ _ _ _ _)
   | (with_reducible exact spec_TokenOk.mono _ _ _)
   | (with_reducible exact LeO.refl _)
   | (with_reducible exact LeO.none _)
   | (with_reducible refine LeO.ite ?_ ?_)
   | (with_reducible refine LeO.bind ?_ (fun _ => ?_))
   | exact ih0 _ _ _
   | exact ih1 _ _ _ _ _
   | exact ih2 _ _ _ _ _ _
   | exact spec_TokenOk.mono _ _ _
   | exact LeO.none _
   | refine LeO.ite ?_ ?_
   | refine LeO.bind ?_ (fun _ => ?_)
  ·intro y0 y1 y2 y3 y4 y5
   unfold spec_Lex.l1
   repeat' first
   | (with_reducible exact ih0 _ _ _)
   | (with_reducible exact ih1 _ _ _ _ _)
   | (with_reducible exact ih2 _ _ _ _ _ _)
   | (with_reducible exact spec_TokenOk.mono _ _ _)
   | (with_reducible exact LeO.refl _)
   | (with_reducible exact LeO.none _)
   | (with_reducible refine LeO.ite ?_ ?_)
   | (with_reducible refine LeO.bind ?_ (fun _ => ?_))
   | exact ih0 _ _ _
   | exact ih1 _ _ _ _ _
   | exact ih2 _ _ _ _ _ _
   | exact spec_TokenOk.mono _ _ _
   | exact LeO.none _
   | refine LeO.ite ?_ ?_
   | refine LeO.bind ?_ (fun _ => ?_)
theorem spec_Lex.mono : ∀ a0 k, LeO (spec_Lex.f k a0) (spec_Lex.f (k + 1) a0) := by
 intro a0 k
 obtain ⟨ih0, ih1, ih2⟩ := spec_Lex.mono_l k
 unfold spec_Lex.f
 repeat' first
   | (with_reducible exact ih0 _ _ _)
   | (with_reducible exact ih1 _ _ _ _ _)
   | (with_reducible exact ih2 _ _ _ _ _ _)
   | (with_reducible exact spec_TokenOk.mono _ _ _)
   | (with_reducible exact LeO.refl _)
   | (with_reducible exact LeO.none _)
   | (with_reducible refine LeO.ite ?_ ?_)
   | (with_reducible refine LeO.bind ?_ (fun _ => ?_))
   | exact ih0 _ _ _
   | exact ih1 _ _ _ _ _
   | exact ih2 _ _ _ _ _ _
   | exact spec_TokenOk.mono _ _ _
   | exact LeO.none _
   | refine LeO.ite ?_ ?_
   | refine LeO.bind ?_ (fun _ => ?_)
set_option maxHeartbeats 8000000 in
set_option maxRecDepth 100000 in
theorem spec_Lex.calls (k : Nat) (a0 : ByteArray) (r1 : List (S73)) (r2 : Int) (w : World) (h : spec_Lex.f k a0 = some (r1, r2)) :
  Calls Try.prog 57 #[.string a0] w fun e w' => ∃ v0_ : Value, e = .returned (.tuple #[v0_, .int .i64 r2]) ∧ Kd.R k73 73 w' w.heap.size (fun _ => True) v0_ r1 ∧ Below w.heap.size w w' := by
 have hu73 := Try.underlying73
 have HB := aM_ (Below.refl w.heap.size w)
 have H : (spec_Lex.l0 k a0 (([] : List (S73))) 0) = some (r1, r2) := h
 clear h
 obtain ⟨y225, hy225⟩ : ∃ y_ : List (S73), y_ = (([] : List (S73))) := ⟨_, rfl⟩
 replace H : (spec_Lex.l0 k a0 y225 0) = some (r1, r2) := by first | (rw [hy225]; with_reducible exact H) | (have H2_ := (Option.bind_some _ _).symm.trans H; rw [hy225]; with_reducible exact H2_) | (have H2_ := (Option.bind_some _ _).symm.trans H; with_reducible exact H2_) | with_reducible exact H | (rw [hy225]; exact H) | exact H
 have Ny225 := aM_ hy225
 clear hy225
 have H' := aM_ H
 clear H
 go_enter Try.func57, Try.ntmps57
 go_wp2_with (first | ((with_reducible refine gate_dst (N := 9) rfl ?_); (try (refine gate_guard (by rfl) ?_; dsimp only)); refine Kd.R_lit k73 _ 73 ?hg (N := 9) ?hd (xs := ([] : List (S73))) (inner := []) (ok := fun _ => True) (okp := fun _ => True) ?hr ?hp (fun _ hk => hk) trivial (Below.refl _ _) (Nat.le_refl _) (by simp) ?_; (case hd => rfl); (case hg => rfl); (case hr => first | (go_simp; done) | (go_simp; rfl)); (case hp => exact (Reps.none _ _)); intro v226 w2 ho3 hb hg_ hnew_; clear hg_ hnew_; (first | rw [← Ny225.out] at ho3 | (simp only [Int.reduceToNat] at ho3; rw [← Ny225.out] at ho3)); have n0_ := aM_ (Kd.R_lower ho3 (bS_ (by repeat (first | (with_reducible first | exact HB.out | apply bA_ | apply bN_ | apply bD_) | exact HB.out)))); have n1_ := aM_ (bT_ (by repeat (first | (with_reducible first | exact HB.out | apply bA_ | apply bN_ | apply bD_) | exact HB.out)) hb); clear HB; have HO227 := n0_; have HB := n1_; clear n0_ n1_; clear hb ho3))
 (try simp only [Act.put, sI_, sS_, sZ_])
 go_loopg [4, 5] k (fun kq v4 v5 w' => ∃ (x4_1 : List (S73)) (x5_1 : Int), v5 = .int .i64 x5_1 ∧ Aside0 (spec_Lex.l0 kq a0 x4_1 x5_1 = some (r1, r2)) ∧ Aside0 (kq ≤ k) ∧ Aside0 (Kd.R k73 73 w' w.heap.size (fun _ => True) v4 x4_1) ∧ Aside0 (Below w.heap.size w w'))
 case atStart => exact ⟨(y225), (0), (by first | rfl | (simp; done) | (simp [*]; done)), H', ⟨Nat.le_refl _⟩, ⟨by (with_reducible repeat (first | apply rA_ | apply rN_ | apply rD_)); exact HO227.out⟩, ⟨by repeat (first | (with_reducible first | exact HB.out | apply bA_ | apply bN_ | apply bD_) | exact HB.out)⟩⟩
 case round =>
  clear H'
  try clear p2
  obtain ⟨x4_1, x5_1, rfl, HA, HK1, HO_4, HB⟩ := hrel
  cases gk with
  | zero => exact absurd HA.out (by simp [spec_Lex.l0])
  | succ k1 =>
   have H := HA.out
   clear HA
   simp only [spec_Lex.l0] at H
   by_cases c4 : x5_1 < (a0.size : Int)
   ·rw [if_pos c4] at H
    have c4b0 : decide (x5_1 < (a0.size : Int)) = true := decide_eq_true c4
    clear c4
    by_cases c5 : 0 ≤ x5_1
    ·rw [if_pos c5] at H
     have c5b0 : decide (0 ≤ x5_1) = true := decide_eq_true c5
     clear c5
     have HC7 := aM_ H
     clear H
     have p6 : 0 ≤ (x5_1 : Int) := oT_ (by first | (with_reducible assumption) | assumption)
     have q6 : x5_1 < (a0.size : Int) := oT_ (by first | (with_reducible assumption) | assumption)
     have hx6 := bt_at a0 x5_1
     replace p6 := eq_true p6
     replace q6 := eq_true q6
     go_upto_region 5 with (fail)
     go_cut [30] (fun v30 wc => ∃ (kq : Nat) (x30_6 : Bool), v30 = .bool x30_6 ∧ Aside0 (spec_Lex.j1 kq a0 x4_1 x5_1 (bt a0 x5_1) x30_6 = some (r1, r2)) ∧ Aside0 (kq ≤ k1) ∧ Aside0 (Kd.R k73 73 wc w.heap.size (fun _ => True) u4 x4_1) ∧ Aside0 (Below w.heap.size w wc))
     case first =>
      have H := HC7.out
      clear HC7
      by_cases c8 : (bt a0 x5_1) = 32
      ·rw [if_pos c8] at H
       have c8b0 : ((bt a0 x5_1) == 32) = true := beq_iff_eq.mpr c8
       have c8b1 : ((bt a0 x5_1) != 32) = false := bne_eq_false_iff_eq.mpr c8
       clear c8
       (first | rw [c8b0] | (simp only [i64_w, i32_w]; rw [c8b0]) | skip)
       have H' := aM_ H
       clear H
       go_wp2
       (first | go_meet | (refine Met.intro ?_; go_step; (repeat apply Exists.intro); refine ⟨?rel, ?eq⟩; (case eq => (try simp only [c6b0]); (try simp only [c6b0]); (try simp only [c8b0]); rfl)))
       case rel => exact ⟨_, (true), (by first | rfl | (simp; done) | (simp [*]; done)), H', ⟨by have := HK1.out; first | omega | exact Nat.le_refl _⟩, ⟨by (with_reducible repeat (first | apply rA_ | apply rN_ | apply rD_)); exact HO_4.out⟩, ⟨by repeat (first | (with_reducible first | exact HB.out | apply bA_ | apply bN_ | apply bD_) | exact HB.out)⟩⟩
      ·rw [if_neg c8] at H
       have c8b0 : ((bt a0 x5_1) == 32) = false := beq_eq_false_iff_ne.mpr c8
       have c8b1 : ((bt a0 x5_1) != 32) = true := bne_iff_ne.mpr c8
       (first | rw [c8b0] | (simp only [i64_w, i32_w]; rw [c8b0]) | skip)
       by_cases c9 : (bt a0 x5_1) = 9
       ·rw [if_pos c9] at H
        have c9b0 : ((bt a0 x5_1) == 9) = true := beq_iff_eq.mpr c9
        have c9b1 : ((bt a0 x5_1) != 9) = false := bne_eq_false_iff_eq.mpr c9
        clear c9
        have H' := aM_ H
        clear H
        go_wp2
        (first | go_meet | (refine Met.intro ?_; go_step; (repeat apply Exists.intro); refine ⟨?rel, ?eq⟩; (case eq => (try simp only [c6b0]); (try simp only [c8b0]); (try simp only [c8b0]); rfl)))
        case rel => exact ⟨_, (true), (by first | rfl | (simp; done) | (simp [*]; done)), H', ⟨by have := HK1.out; first | omega | exact Nat.le_refl _⟩, ⟨by (with_reducible repeat (first | apply rA_ | apply rN_ | apply rD_)); exact HO_4.out⟩, ⟨by repeat (first | (with_reducible first | exact HB.out | apply bA_ | apply bN_ | apply bD_) | exact HB.out)⟩⟩
       ·rw [if_neg c9] at H
        have c9b0 : ((bt a0 x5_1) == 9) = false := beq_eq_false_iff_ne.mpr c9
        have c9b1 : ((bt a0 x5_1) != 9) = true := bne_iff_ne.mpr c9
        by_cases c10 : (bt a0 x5_1) = 10
        ·rw [if_pos c10] at H
         have c10b0 : ((bt a0 x5_1) == 10) = true := beq_iff_eq.mpr c10
         have c10b1 : ((bt a0 x5_1) != 10) = false := bne_eq_false_iff_eq.mpr c10
         clear c10
         have H' := aM_ H
         clear H
         go_wp2
         (first | go_meet | (refine Met.intro ?_; go_step; (repeat apply Exists.intro); refine ⟨?rel, ?eq⟩; (case eq => (try simp only [c6b0]); (try simp only [c8b0]); (try simp only [c8b0]); rfl)))
         case rel => exact ⟨_, (true), (by first | rfl | (simp; done) | (simp [*]; done)), H', ⟨by have := HK1.out; first | omega | exact Nat.le_refl _⟩, ⟨by (with_reducible repeat (first | apply rA_ | apply rN_ | apply rD_)); exact HO_4.out⟩, ⟨by repeat (first | (with_reducible first | exact HB.out | apply bA_ | apply bN_ | apply bD_) | exact HB.out)⟩⟩
        ·rw [if_neg c10] at H
         have c10b0 : ((bt a0 x5_1) == 10) = false := beq_eq_false_iff_ne.mpr c10
         have c10b1 : ((bt a0 x5_1) != 10) = true := bne_iff_ne.mpr c10
         have H' := aM_ H
         clear H
         go_wp2
         (first | go_meet | (refine Met.intro ?_; go_step; (repeat apply Exists.intro); refine ⟨?rel, ?eq⟩; (case eq => (try simp only [c6b0]); (try simp only [c8b0]); (try simp only [c8b0]); rfl)))
         case rel => exact ⟨_, (((bt a0 x5_1) == 13)), (by first | rfl | (simp; done) | (simp [*]; done)), H', ⟨by have := HK1.out; first | omega | exact Nat.le_refl _⟩, ⟨by (with_reducible repeat (first | apply rA_ | apply rN_ | apply rD_)); exact HO_4.out⟩, ⟨by repeat (first | (with_reducible first | exact HB.out | apply bA_ | apply bN_ | apply bD_) | exact HB.out)⟩⟩
     case rest =>
      clear HC7
      try clear c1
      try clear p2
      try clear c4
      try clear c4b0
      try clear c5
      try clear c5b0
      try clear c6
      try clear c6b0
      try clear p6
      try clear q6
      try clear hx6
      try clear c8
      try clear c8b0
      try clear c8b1
      try clear c9
      try clear c9b0
      try clear c9b1
      try clear c10
      try clear c10b0
      try clear c10b1
      try clear p2
      try clear p6
      try clear q6
      obtain ⟨kq, x30_6, rfl, HA, HJ6, HO_4, HB⟩ := hcut
      cases kq with
      | zero => exact absurd HA.out (by simp [spec_Lex.j1])
      | succ kj6 =>
       have H := HA.out
       clear HA
       simp only [spec_Lex.j1] at H
       by_cases c11 : x30_6 = true
       ·subst c11
        have H1 : (spec_Lex.l0 kj6 a0 x4_1 (wrap64 (x5_1 + 1))) = some (r1, r2) := by rw [if_pos rfl] at H; exact H
        clear H
        have H := H1
        clear H1
        have H' := aM_ H
        clear H
        go_wp2
        go_roundg kj6
        case measure => have := HK1.out; have := HJ6.out; omega
        case rel => exact ⟨(x4_1), (wrap64 (x5_1 + 1)), (by first | rfl | (simp; done) | (simp [*]; done)), H', ⟨by have := HK1.out; have := HJ6.out; omega⟩, ⟨by (with_reducible repeat (first | apply rA_ | apply rN_ | apply rD_)); exact HO_4.out⟩, ⟨by repeat (first | (with_reducible first | exact HB.out | apply bA_ | apply bN_ | apply bD_) | exact HB.out)⟩⟩
       ·replace c11 := Bool.eq_false_iff.mpr c11
        subst c11
        have H1 : ((spec_l8Small.f (bt a0 x5_1)).bind fun t229 => (if t229 = true then (spec_Lex.l1 kj6 a0 x4_1 x5_1 (wrap64 (x5_1 + 1)) 1 (⟨#[]⟩ : ByteArray)) else (if 0 ≤ x5_1 then (if x5_1 ≤ (wrap64 (x5_1 + 1)) then (if (wrap64 (x5_1 + 1)) ≤ (a0.size : Int) then ((spec_TokenOk.f kj6 2 (a0.extract (x5_1 : Int).toNat ((wrap64 (x5_1 + 1)) : Int).toNat)).bind fun t252 => (if t252 = true then (if (x4_1.length : Int) = 500 then (some ((([] : List (S73))), x5_1)) else (if x4_1.length < 5864062014805 then (spec_Lex.l0 kj6 a0 (x4_1 ++ [(⟨2, a0.extract (x5_1 : Int).toNat ((wrap64 (x5_1 + 1)) : Int).toNat⟩ : S73)]) (wrap64 (x5_1 + 1))) else (none))) else (some ((([] : List (S73))), x5_1)))) else (none)) else (none)) else (none)))) = some (r1, r2) := by rw [if_neg (show ¬ (false = true) by decide)] at H; exact H
        clear H
        have H := H1
        clear H1
        replace H := oB_ H
        obtain ⟨t229, A120, H⟩ := H
        replace H : (if t229 = true then (spec_Lex.l1 kj6 a0 x4_1 x5_1 (wrap64 (x5_1 + 1)) 1 (⟨#[]⟩ : ByteArray)) else (if 0 ≤ x5_1 then (if x5_1 ≤ (wrap64 (x5_1 + 1)) then (if (wrap64 (x5_1 + 1)) ≤ (a0.size : Int) then ((spec_TokenOk.f kj6 2 (a0.extract (x5_1 : Int).toNat ((wrap64 (x5_1 + 1)) : Int).toNat)).bind fun t252 => (if t252 = true then (if (x4_1.length : Int) = 500 then (some ((([] : List (S73))), x5_1)) else (if x4_1.length < 5864062014805 then (spec_Lex.l0 kj6 a0 (x4_1 ++ [(⟨2, a0.extract (x5_1 : Int).toNat ((wrap64 (x5_1 + 1)) : Int).toNat⟩ : S73)]) (wrap64 (x5_1 + 1))) else (none))) else (some ((([] : List (S73))), x5_1)))) else (none)) else (none)) else (none))) = some (r1, r2) := H
        have A12 := aM_ A120
        clear A120
        by_cases c13 : t229 = true
        ·subst c13
         have H1 : (spec_Lex.l1 kj6 a0 x4_1 x5_1 (wrap64 (x5_1 + 1)) 1 (⟨#[]⟩ : ByteArray)) = some (r1, r2) := by rw [if_pos rfl] at H; exact H
         clear H
         have H := H1
         clear H1
         have H' := aM_ H
         clear H
         go_wp2_with (first | ((with_reducible refine gate_dst (N := 8) rfl ?_); (try (refine gate_guard (by rfl) ?_; dsimp only)); refine box_event ?hg (N := 8) ?hd (cs := #[.int .i64 0, .string (⟨#[]⟩ : ByteArray)]) (t := 73) ?hr ?_; (case hd => rfl); (case hg => rfl); (case hr => first | (go_simp; done) | (go_simp; rfl)); intro gb228 hg w14 hbox hb; have n0_ := aM_ (Kd.R_below (Kd.R_elderB (by (with_reducible repeat (first | apply rA_ | apply rN_ | apply rD_)); exact HO_4.out) gb228 (Nat.le_of_eq hg.symm)) hb); have n1_ := aM_ (bT_ (by repeat (first | (with_reducible first | exact HB.out | apply bA_ | apply bN_ | apply bD_) | exact HB.out)) hb); have n2_ := aM_ (hbox); have n3_ := aM_ ((by rw [hg]; exact (bS_ (by repeat (first | (with_reducible first | exact HB.out | apply bA_ | apply bN_ | apply bD_) | exact HB.out))) : w.heap.size ≤ gb228)); have n4_ := aM_ ((by rw [hg]; exact (bS_ (by repeat (first | (with_reducible first | exact HB.out | apply bA_ | apply bN_ | apply bD_) | exact HB.out))) : w.heap.size ≤ gb228)); clear HO_4; clear HB; have HO_4 := n0_; have HB := n1_; have BK228 := n2_; have GW228 := n3_; have GE228 := n4_; clear n0_ n1_ n2_ n3_ n4_; clear hb hbox hg; have hcz15_0 : w14.cell? ⟨gb228, 0, none⟩ = some (.int .i64 0) := (kC_ BK228.out 0).trans rfl; have hcz15_1 : w14.cell? ⟨gb228, 1, none⟩ = some (.string (⟨#[]⟩ : ByteArray)) := (kC_ BK228.out 1).trans rfl; have hfz15_0 := kF_ BK228.out 0; have hfz15_1 := kF_ BK228.out 1) | ((with_reducible refine gate_callee (f := 126) rfl ?_); refine goesL_ (some 37) rfl rfl Try.func126 (by kernel_rfl) rfl #[.int .u8 (bt a0 x5_1)] rfl (by (try simp only [mA_, mC_, mN_]); first | done | rfl | (simp only [lD_, lT_]; rfl)) ?_; (with_reducible refine (spec_l8Small.calls (bt a0 x5_1) true _ A12.out).mono ?_); rintro e w' ⟨rfl, ⟨nd, rfl⟩⟩; refine ⟨_, rfl, ?_⟩))
         (try simp only [Act.put, sI_, sS_, sZ_])
         go_loopg [7] kj6 (fun kq v7 w' => ∃ (x7_3 : Int), v7 = .int .i64 x7_3 ∧ Aside0 (spec_Lex.l1 kq a0 x4_1 x5_1 x7_3 1 (⟨#[]⟩ : ByteArray) = some (r1, r2)) ∧ Aside0 (kq ≤ kj6) ∧ Aside0 (Kd.R k73 73 w' w.heap.size (fun k_ => k_ ≠ gb228) u4 x4_1) ∧ Aside0 (w'.heap[gb228]? = some (.cells #[.int .i64 1, .string (⟨#[]⟩ : ByteArray)] 73 (0, 0))) ∧ Aside0 (Below w.heap.size w w'))
         case atStart => exact ⟨(wrap64 (x5_1 + 1)), (by first | rfl | (simp; done) | (simp [*]; done)), H', ⟨Nat.le_refl _⟩, ⟨by (with_reducible repeat (first | apply rA_ | apply rN_ | apply rD_)); exact Kd.R_mono (Kd.R_far (p := ⟨gb228, 0, none⟩) (Kd.R_far (p := ⟨gb228, 1, none⟩) (Kd.R_far (p := ⟨gb228, 0, none⟩) (Kd.R_mono HO_4.out (fun k_ hk => (⟨hk, hk.2⟩ : _ ∧ k_ ≠ gb228))) (fun _ hk => hk.2) (.int .i64 2)) (fun _ hk => hk.2) (.string (⟨#[]⟩ : ByteArray))) (fun _ hk => hk.2) (.int .i64 1)) (fun _ hk => hk.1.2)⟩, ⟨by (with_reducible repeat (first | refine kN_ ?_ _ | refine kD_ ?_ | refine kA_ ?_ _)); refine kP_ (cs := #[.int .i64 2, .string (⟨#[]⟩ : ByteArray)]) ?_ 0 _ rfl; (with_reducible repeat (first | refine kN_ ?_ _ | refine kD_ ?_ | refine kA_ ?_ _)); refine kP_ (cs := #[.int .i64 2, .string (⟨#[]⟩ : ByteArray)]) ?_ 1 _ rfl; (with_reducible repeat (first | refine kN_ ?_ _ | refine kD_ ?_ | refine kA_ ?_ _)); refine kP_ (cs := #[.int .i64 0, .string (⟨#[]⟩ : ByteArray)]) ?_ 0 _ rfl; (with_reducible repeat (first | refine kN_ ?_ _ | refine kD_ ?_ | refine kA_ ?_ _)); exact BK228.out⟩, ⟨by repeat (first | (with_reducible first | exact HB.out | apply bA_ | apply bN_ | apply bD_ | refine bE_ ?_ GE228.out) | exact HB.out)⟩⟩
         case round =>
          clear H'
          try clear c1
          try clear p2
          try clear c4
          try clear c4b0
          try clear c5
          try clear c5b0
          try clear c6
          try clear c6b0
          try clear p6
          try clear q6
          try clear hx6
          try clear c8
          try clear c8b0
          try clear c8b1
          try clear c9
          try clear c9b0
          try clear c9b1
          try clear c10
          try clear c10b0
          try clear c10b1
          try clear c11
          try clear c12
          try clear c13
          try clear hcz15_0
          try clear hcz15_1
          try clear hfz15_0
          try clear hfz15_1
          try clear p2
          try clear p6
          try clear q6
          obtain ⟨x7_3, rfl, HA, HK3, HO_4, BK228, HB⟩ := hrel
          cases gk with
          | zero => exact absurd HA.out (by simp [spec_Lex.l1])
          | succ k3 =>
           have H := HA.out
           clear HA
           simp only [spec_Lex.l1] at H
           by_cases c16 : x7_3 < (a0.size : Int)
           ·rw [if_pos c16] at H
            have c16b0 : decide (x7_3 < (a0.size : Int)) = true := decide_eq_true c16
            clear c16
            by_cases c17 : 0 ≤ x7_3
            ·rw [if_pos c17] at H
             have c17b0 : decide (0 ≤ x7_3) = true := decide_eq_true c17
             clear c17
             replace H := oB_ H
             obtain ⟨t230, A190, H⟩ := H
             replace H : (if t230 = true then (spec_Lex.l1 k3 a0 x4_1 x5_1 (wrap64 (x7_3 + 1)) 1 (⟨#[]⟩ : ByteArray)) else ((spec_l2Digit.f (bt a0 x7_3)).bind fun t231 => (if t231 = true then (spec_Lex.l1 k3 a0 x4_1 x5_1 (wrap64 (x7_3 + 1)) 1 (⟨#[]⟩ : ByteArray)) else (if 0 ≤ x5_1 then (if x5_1 ≤ x7_3 then (if x7_3 ≤ (a0.size : Int) then ((spec_TokenOk.f k3 1 (a0.extract (x5_1 : Int).toNat (x7_3 : Int).toNat)).bind fun t232 => (if t232 = true then (if (x4_1.length : Int) = 500 then (some ((([] : List (S73))), x5_1)) else (if x4_1.length < 5864062014805 then (spec_Lex.l0 k3 a0 (x4_1 ++ [(⟨1, a0.extract (x5_1 : Int).toNat (x7_3 : Int).toNat⟩ : S73)]) x7_3) else (none))) else (some ((([] : List (S73))), x5_1)))) else (none)) else (none)) else (none))))) = some (r1, r2) := H
             have A19 := aM_ A190
             clear A190
             by_cases c20 : t230 = true
             ·subst c20
              have H1 : (spec_Lex.l1 k3 a0 x4_1 x5_1 (wrap64 (x7_3 + 1)) 1 (⟨#[]⟩ : ByteArray)) = some (r1, r2) := by rw [if_pos rfl] at H; exact H
              clear H
              have H := H1
              clear H1
              have H' := aM_ H
              clear H
              have p18 : 0 ≤ (x7_3 : Int) := oT_ (by first | (with_reducible assumption) | assumption)
              have q18 : x7_3 < (a0.size : Int) := oT_ (by first | (with_reducible assumption) | assumption)
              have hx18 := bt_at a0 x7_3
              replace p18 := eq_true p18
              replace q18 := eq_true q18
              go_wp2_with (first | (go_at_call 126; (with_reducible refine (spec_l8Small.calls (bt a0 x7_3) true _ A19.out).mono ?_); rintro e w' ⟨rfl, ⟨nd, rfl⟩⟩))
              go_roundg k3
              case measure => have := HK1.out; have := HJ6.out; have := HK3.out; omega
              case rel => exact ⟨(wrap64 (x7_3 + 1)), (by first | rfl | (simp; done) | (simp [*]; done)), H', ⟨by have := HK1.out; have := HJ6.out; have := HK3.out; omega⟩, ⟨by (with_reducible repeat (first | apply rA_ | apply rN_ | apply rD_)); exact HO_4.out⟩, ⟨by (with_reducible repeat (first | refine kN_ ?_ _ | refine kD_ ?_ | refine kA_ ?_ _)); exact BK228.out⟩, ⟨by repeat (first | (with_reducible first | exact HB.out | apply bA_ | apply bN_ | apply bD_ | refine bE_ ?_ GE228.out) | exact HB.out)⟩⟩
             ·replace c20 := Bool.eq_false_iff.mpr c20
              subst c20
              have H1 : ((spec_l2Digit.f (bt a0 x7_3)).bind fun t231 => (if t231 = true then (spec_Lex.l1 k3 a0 x4_1 x5_1 (wrap64 (x7_3 + 1)) 1 (⟨#[]⟩ : ByteArray)) else (if 0 ≤ x5_1 then (if x5_1 ≤ x7_3 then (if x7_3 ≤ (a0.size : Int) then ((spec_TokenOk.f k3 1 (a0.extract (x5_1 : Int).toNat (x7_3 : Int).toNat)).bind fun t232 => (if t232 = true then (if (x4_1.length : Int) = 500 then (some ((([] : List (S73))), x5_1)) else (if x4_1.length < 5864062014805 then (spec_Lex.l0 k3 a0 (x4_1 ++ [(⟨1, a0.extract (x5_1 : Int).toNat (x7_3 : Int).toNat⟩ : S73)]) x7_3) else (none))) else (some ((([] : List (S73))), x5_1)))) else (none)) else (none)) else (none)))) = some (r1, r2) := by rw [if_neg (show ¬ (false = true) by decide)] at H; exact H
              clear H
              have H := H1
              clear H1
              replace H := oB_ H
              obtain ⟨t231, A220, H⟩ := H
              replace H : (if t231 = true then (spec_Lex.l1 k3 a0 x4_1 x5_1 (wrap64 (x7_3 + 1)) 1 (⟨#[]⟩ : ByteArray)) else (if 0 ≤ x5_1 then (if x5_1 ≤ x7_3 then (if x7_3 ≤ (a0.size : Int) then ((spec_TokenOk.f k3 1 (a0.extract (x5_1 : Int).toNat (x7_3 : Int).toNat)).bind fun t232 => (if t232 = true then (if (x4_1.length : Int) = 500 then (some ((([] : List (S73))), x5_1)) else (if x4_1.length < 5864062014805 then (spec_Lex.l0 k3 a0 (x4_1 ++ [(⟨1, a0.extract (x5_1 : Int).toNat (x7_3 : Int).toNat⟩ : S73)]) x7_3) else (none))) else (some ((([] : List (S73))), x5_1)))) else (none)) else (none)) else (none))) = some (r1, r2) := H
              have A22 := aM_ A220
              clear A220
              by_cases c23 : t231 = true
              ·subst c23
               have H1 : (spec_Lex.l1 k3 a0 x4_1 x5_1 (wrap64 (x7_3 + 1)) 1 (⟨#[]⟩ : ByteArray)) = some (r1, r2) := by rw [if_pos rfl] at H; exact H
               clear H
               have H := H1
               clear H1
               have H' := aM_ H
               clear H
               have p18 : 0 ≤ (x7_3 : Int) := oT_ (by first | (with_reducible assumption) | assumption)
               have q18 : x7_3 < (a0.size : Int) := oT_ (by first | (with_reducible assumption) | assumption)
               have hx18 := bt_at a0 x7_3
               replace p18 := eq_true p18
               replace q18 := eq_true q18
               go_wp2_with (first | (go_at_call 126; (with_reducible refine (spec_l8Small.calls (bt a0 x7_3) false _ A19.out).mono ?_); rintro e w' ⟨rfl, ⟨nd, rfl⟩⟩; have p21 : 0 ≤ (x7_3 : Int) := oT_ (by first | (with_reducible assumption) | assumption); have q21 : x7_3 < (a0.size : Int) := oT_ (by first | (with_reducible assumption) | assumption); have hx21 := bt_at a0 x7_3; replace p21 := eq_true p21; replace q21 := eq_true q21) | (go_at_call 127; (with_reducible refine (spec_l2Digit.calls (bt a0 x7_3) true _ A22.out).mono ?_); rintro e w' ⟨rfl, ⟨nd, rfl⟩⟩))
               go_roundg k3
               case measure => have := HK1.out; have := HJ6.out; have := HK3.out; omega
               case rel => exact ⟨(wrap64 (x7_3 + 1)), (by first | rfl | (simp; done) | (simp [*]; done)), H', ⟨by have := HK1.out; have := HJ6.out; have := HK3.out; omega⟩, ⟨by (with_reducible repeat (first | apply rA_ | apply rN_ | apply rD_)); exact HO_4.out⟩, ⟨by (with_reducible repeat (first | refine kN_ ?_ _ | refine kD_ ?_ | refine kA_ ?_ _)); exact BK228.out⟩, ⟨by repeat (first | (with_reducible first | exact HB.out | apply bA_ | apply bN_ | apply bD_ | refine bE_ ?_ GE228.out) | exact HB.out)⟩⟩
              ·replace c23 := Bool.eq_false_iff.mpr c23
               subst c23
               have H1 : (if 0 ≤ x5_1 then (if x5_1 ≤ x7_3 then (if x7_3 ≤ (a0.size : Int) then ((spec_TokenOk.f k3 1 (a0.extract (x5_1 : Int).toNat (x7_3 : Int).toNat)).bind fun t232 => (if t232 = true then (if (x4_1.length : Int) = 500 then (some ((([] : List (S73))), x5_1)) else (if x4_1.length < 5864062014805 then (spec_Lex.l0 k3 a0 (x4_1 ++ [(⟨1, a0.extract (x5_1 : Int).toNat (x7_3 : Int).toNat⟩ : S73)]) x7_3) else (none))) else (some ((([] : List (S73))), x5_1)))) else (none)) else (none)) else (none)) = some (r1, r2) := by rw [if_neg (show ¬ (false = true) by decide)] at H; exact H
               clear H
               have H := H1
               clear H1
               by_cases c24 : 0 ≤ x5_1
               ·rw [if_pos c24] at H
                have c24b0 := eq_true c24
                have c24b1 : decide (0 ≤ x5_1) = true := decide_eq_true c24
                clear c24
                by_cases c25 : x5_1 ≤ x7_3
                ·rw [if_pos c25] at H
                 have c25b0 := eq_true c25
                 have c25b1 : decide (x5_1 ≤ x7_3) = true := decide_eq_true c25
                 clear c25
                 by_cases c26 : x7_3 ≤ (a0.size : Int)
                 ·rw [if_pos c26] at H
                  have c26b0 := eq_true c26
                  have c26b1 : decide (x7_3 ≤ (a0.size : Int)) = true := decide_eq_true c26
                  clear c26
                  replace H := oB_ H
                  obtain ⟨t232, A270, H⟩ := H
                  replace H : (if t232 = true then (if (x4_1.length : Int) = 500 then (some ((([] : List (S73))), x5_1)) else (if x4_1.length < 5864062014805 then (spec_Lex.l0 k3 a0 (x4_1 ++ [(⟨1, a0.extract (x5_1 : Int).toNat (x7_3 : Int).toNat⟩ : S73)]) x7_3) else (none))) else (some ((([] : List (S73))), x5_1))) = some (r1, r2) := H
                  have A27 := aM_ A270
                  clear A270
                  by_cases c28 : t232 = true
                  ·subst c28
                   have H1 : (if (x4_1.length : Int) = 500 then (some ((([] : List (S73))), x5_1)) else (if x4_1.length < 5864062014805 then (spec_Lex.l0 k3 a0 (x4_1 ++ [(⟨1, a0.extract (x5_1 : Int).toNat (x7_3 : Int).toNat⟩ : S73)]) x7_3) else (none))) = some (r1, r2) := by rw [if_pos rfl] at H; exact H
                   clear H
                   have H := H1
                   clear H1
                   by_cases c29 : (x4_1.length : Int) = 500
                   ·rw [if_pos c29] at H
                    have c29b0 : ((x4_1.length : Int) == 500) = true := beq_iff_eq.mpr c29
                    have c29b1 : ((x4_1.length : Int) != 500) = false := bne_eq_false_iff_eq.mpr c29
                    clear c29
                    obtain ⟨y233, hy233⟩ : ∃ y_ : List (S73), y_ = (([] : List (S73))) := ⟨_, rfl⟩
                    replace H : (some (y233, x5_1)) = some (r1, r2) := by first | (rw [hy233]; with_reducible exact H) | (have H2_ := (Option.bind_some _ _).symm.trans H; rw [hy233]; with_reducible exact H2_) | (have H2_ := (Option.bind_some _ _).symm.trans H; with_reducible exact H2_) | with_reducible exact H | (rw [hy233]; exact H) | exact H
                    have Ny233 := aM_ hy233
                    clear hy233
                    simp only [Option.some.injEq, Prod.mk.injEq] at H
                    obtain ⟨rfl, rfl⟩ := H
                    have p18 : 0 ≤ (x7_3 : Int) := oT_ (by first | (with_reducible assumption) | assumption)
                    have q18 : x7_3 < (a0.size : Int) := oT_ (by first | (with_reducible assumption) | assumption)
                    have hx18 := bt_at a0 x7_3
                    replace p18 := eq_true p18
                    replace q18 := eq_true q18
                    go_wp2_with (first | (go_at_call 126; (with_reducible refine (spec_l8Small.calls (bt a0 x7_3) false _ A19.out).mono ?_); rintro e w' ⟨rfl, ⟨nd, rfl⟩⟩; (try (rw [drewN_self wr]; generalize hq_ : World.drewN wr _ = wr; have n0_ : Aside0 (Kd.R k73 73 wr w.heap.size (fun k_ => k_ ≠ gb228) u4 x4_1) := ⟨by rw [← hq_]; exact (by (with_reducible repeat (first | apply rA_ | apply rN_ | apply rD_)); exact HO_4.out)⟩; have n1_ : Aside0 (wr.heap[gb228]? = some (.cells #[.int .i64 1, .string (⟨#[]⟩ : ByteArray)] 73 (0, 0))) := ⟨by rw [← hq_]; exact (by (with_reducible repeat (first | refine kN_ ?_ _ | refine kD_ ?_ | refine kA_ ?_ _)); exact BK228.out)⟩; have n2_ : Aside0 (Below w.heap.size w wr) := ⟨by rw [← hq_]; exact (by repeat (first | (with_reducible first | exact HB.out | apply bA_ | apply bN_ | apply bD_ | refine bE_ ?_ GE228.out) | exact HB.out))⟩; clear HO_4 BK228 HB hq_; have HO_4 := n0_; have BK228 := n1_; have HB := n2_; clear n0_ n1_ n2_)); have p21 : 0 ≤ (x7_3 : Int) := oT_ (by first | (with_reducible assumption) | assumption); have q21 : x7_3 < (a0.size : Int) := oT_ (by first | (with_reducible assumption) | assumption); have hx21 := bt_at a0 x7_3; replace p21 := eq_true p21; replace q21 := eq_true q21) | (go_at_call 127; (with_reducible refine (spec_l2Digit.calls (bt a0 x7_3) false _ A22.out).mono ?_); rintro e w' ⟨rfl, ⟨nd, rfl⟩⟩; (try (rw [drewN_self wr]; generalize hq_ : World.drewN wr _ = wr; have n0_ : Aside0 (Kd.R k73 73 wr w.heap.size (fun k_ => k_ ≠ gb228) u4 x4_1) := ⟨by rw [← hq_]; exact (by (with_reducible repeat (first | apply rA_ | apply rN_ | apply rD_)); exact HO_4.out)⟩; have n1_ : Aside0 (wr.heap[gb228]? = some (.cells #[.int .i64 1, .string (⟨#[]⟩ : ByteArray)] 73 (0, 0))) := ⟨by rw [← hq_]; exact (by (with_reducible repeat (first | refine kN_ ?_ _ | refine kD_ ?_ | refine kA_ ?_ _)); exact BK228.out)⟩; have n2_ : Aside0 (Below w.heap.size w wr) := ⟨by rw [← hq_]; exact (by repeat (first | (with_reducible first | exact HB.out | apply bA_ | apply bN_ | apply bD_ | refine bE_ ?_ GE228.out) | exact HB.out))⟩; clear HO_4 BK228 HB hq_; have HO_4 := n0_; have BK228 := n1_; have HB := n2_; clear n0_ n1_ n2_)); have hcz30_0 : wr.cell? ⟨gb228, 0, none⟩ = some (.int .i64 1) := (kC_ BK228.out 0).trans rfl; have hcz30_1 : wr.cell? ⟨gb228, 1, none⟩ = some (.string (⟨#[]⟩ : ByteArray)) := (kC_ BK228.out 1).trans rfl; have hfz30_0 := kF_ BK228.out 0; have hfz30_1 := kF_ BK228.out 1) | ((with_reducible refine gate_callee (f := 60) rfl ?_); refine goesL_ (some 63) rfl rfl Try.func60 (by kernel_rfl) rfl #[.agg #[.int .i64 1, .string (a0.extract (x5_1 : Int).toNat (x7_3 : Int).toNat)]] rfl (by (try simp only [mA_, mC_, mN_]); first | done | rfl | (simp only [lD_, lT_]; rfl)) ?_; (with_reducible refine (spec_TokenOk.calls k3 1 (a0.extract (x5_1 : Int).toNat (x7_3 : Int).toNat) true _ A27.out).mono ?_); rintro e w31 ⟨rfl, hb⟩; refine ⟨_, rfl, ?_⟩; have n0_ := aM_ (Kd.R_below (by (with_reducible repeat (first | apply rA_ | apply rN_ | apply rD_)); exact (Kd.R_mono (Kd.R_far (p := ⟨gb228, 1, none⟩) (Kd.R_mono HO_4.out (fun k_ hk => (⟨hk, hk⟩ : _ ∧ k_ ≠ gb228))) (fun _ hk => hk.2) (.string (a0.extract (x5_1 : Int).toNat (x7_3 : Int).toNat))) (fun _ h_ => h_.1))) hb); have n1_ := aM_ (blk_below (g := gb228) (o := .cells #[.int .i64 1, .string (a0.extract (x5_1 : Int).toNat (x7_3 : Int).toNat)] 73 (0, 0)) (by (with_reducible repeat (first | refine kN_ ?_ _ | refine kD_ ?_ | refine kA_ ?_ _)); refine kP_ (cs := #[.int .i64 1, .string (⟨#[]⟩ : ByteArray)]) ?_ 1 _ rfl; (with_reducible repeat (first | refine kN_ ?_ _ | refine kD_ ?_ | refine kA_ ?_ _)); exact BK228.out) hb); have n2_ := aM_ (bT_ (by repeat (first | (with_reducible first | exact HB.out | apply bA_ | apply bN_ | apply bD_ | refine bE_ ?_ GE228.out) | exact HB.out)) hb); clear HO_4; clear BK228; clear HB; have HO_4 := n0_; have BK228 := n1_; have HB := n2_; clear n0_ n1_ n2_; (try clear hb); (try clear hb2); (try clear hk); (try clear hi); obtain ⟨Ao32, co32, eo32⟩ := Kd.R_slice HO_4.out; subst eo32) | ((with_reducible refine gate_dst (N := 70) rfl ?_); (try (refine gate_guard (by rfl) ?_; dsimp only)); refine Kd.R_lit k73 _ 73 ?hg (N := 70) ?hd (xs := ([] : List (S73))) (inner := []) (ok := fun _ => True) (okp := fun _ => True) ?hr ?hp (fun _ hk => hk) trivial (Below.refl _ _) (Nat.le_refl _) (by simp) ?_; (case hd => rfl); (case hg => rfl); (case hr => first | (go_simp; done) | (go_simp; rfl)); (case hp => exact (Reps.none _ _)); intro v234 w33 ho34 hb hg_ hnew_; clear hg_ hnew_; (first | rw [← Ny233.out] at ho34 | (simp only [Int.reduceToNat] at ho34; rw [← Ny233.out] at ho34)); have n0_ := aM_ (Kd.R_elder' (by (with_reducible repeat (first | apply rA_ | apply rN_ | apply rD_)); exact HO_4.out) (Kd.R_base ho34) hb); have n1_ := aM_ (Kd.R_lower (Kd.R_newB (Kd.R_new' ho34 (Kd.R_lt (by (with_reducible repeat (first | apply rA_ | apply rN_ | apply rD_)); exact HO_4.out))) (g := gb228) (o := .cells #[.int .i64 1, .string (a0.extract (x5_1 : Int).toNat (x7_3 : Int).toNat)] 73 (0, 0)) (by (with_reducible repeat (first | refine kN_ ?_ _ | refine kD_ ?_ | refine kA_ ?_ _)); exact BK228.out)) (bS_ (by repeat (first | (with_reducible first | exact HB.out | apply bA_ | apply bN_ | apply bD_ | refine bE_ ?_ GE228.out) | exact HB.out)))); have n2_ := aM_ (blk_below (g := gb228) (o := .cells #[.int .i64 1, .string (a0.extract (x5_1 : Int).toNat (x7_3 : Int).toNat)] 73 (0, 0)) (by (with_reducible repeat (first | refine kN_ ?_ _ | refine kD_ ?_ | refine kA_ ?_ _)); exact BK228.out) hb); have n3_ := aM_ (bT_ (by repeat (first | (with_reducible first | exact HB.out | apply bA_ | apply bN_ | apply bD_ | refine bE_ ?_ GE228.out) | exact HB.out)) hb); clear HO_4; clear BK228; clear HB; have HO_4 := n0_; have HO235 := n1_; have BK228 := n2_; have HB := n3_; clear n0_ n1_ n2_ n3_; clear hb ho34))
                    go_ret2
                    exact ⟨_, by first | rfl | (simp [errW_none, errW_some] <;> rfl) | (simp [*, errW_none, errW_some] <;> rfl), by (with_reducible repeat (first | apply rA_ | apply rN_ | apply rD_)); exact Kd.R_mono HO235.out (fun _ hk => trivial), by repeat (first | (with_reducible first | exact HB.out | apply bA_ | apply bN_ | apply bD_ | refine bE_ ?_ GE228.out) | exact HB.out)⟩
                   ·rw [if_neg c29] at H
                    have c29b0 : ((x4_1.length : Int) == 500) = false := beq_eq_false_iff_ne.mpr c29
                    have c29b1 : ((x4_1.length : Int) != 500) = true := bne_iff_ne.mpr c29
                    by_cases c35 : x4_1.length < 5864062014805
                    ·rw [if_pos c35] at H
                     have LMc35 := aM_ c35
                     clear c35
                     obtain ⟨y236, hy236⟩ : ∃ y_ : List (S73), y_ = (x4_1 ++ [(⟨1, a0.extract (x5_1 : Int).toNat (x7_3 : Int).toNat⟩ : S73)]) := ⟨_, rfl⟩
                     replace H : (spec_Lex.l0 k3 a0 y236 x7_3) = some (r1, r2) := by first | (rw [hy236]; with_reducible exact H) | (have H2_ := (Option.bind_some _ _).symm.trans H; rw [hy236]; with_reducible exact H2_) | (have H2_ := (Option.bind_some _ _).symm.trans H; with_reducible exact H2_) | with_reducible exact H | (rw [hy236]; exact H) | exact H
                     have Ny236 := aM_ hy236
                     clear hy236
                     have H' := aM_ H
                     clear H
                     have p18 : 0 ≤ (x7_3 : Int) := oT_ (by first | (with_reducible assumption) | assumption)
                     have q18 : x7_3 < (a0.size : Int) := oT_ (by first | (with_reducible assumption) | assumption)
                     have hx18 := bt_at a0 x7_3
                     replace p18 := eq_true p18
                     replace q18 := eq_true q18
                     go_wp2_with (first | (go_at_call 126; (with_reducible refine (spec_l8Small.calls (bt a0 x7_3) false _ A19.out).mono ?_); rintro e w' ⟨rfl, ⟨nd, rfl⟩⟩; (try (rw [drewN_self wr]; generalize hq_ : World.drewN wr _ = wr; have n0_ : Aside0 (Kd.R k73 73 wr w.heap.size (fun k_ => k_ ≠ gb228) u4 x4_1) := ⟨by rw [← hq_]; exact (by (with_reducible repeat (first | apply rA_ | apply rN_ | apply rD_)); exact HO_4.out)⟩; have n1_ : Aside0 (wr.heap[gb228]? = some (.cells #[.int .i64 1, .string (⟨#[]⟩ : ByteArray)] 73 (0, 0))) := ⟨by rw [← hq_]; exact (by (with_reducible repeat (first | refine kN_ ?_ _ | refine kD_ ?_ | refine kA_ ?_ _)); exact BK228.out)⟩; have n2_ : Aside0 (Below w.heap.size w wr) := ⟨by rw [← hq_]; exact (by repeat (first | (with_reducible first | exact HB.out | apply bA_ | apply bN_ | apply bD_ | refine bE_ ?_ GE228.out) | exact HB.out))⟩; clear HO_4 BK228 HB hq_; have HO_4 := n0_; have BK228 := n1_; have HB := n2_; clear n0_ n1_ n2_)); have p21 : 0 ≤ (x7_3 : Int) := oT_ (by first | (with_reducible assumption) | assumption); have q21 : x7_3 < (a0.size : Int) := oT_ (by first | (with_reducible assumption) | assumption); have hx21 := bt_at a0 x7_3; replace p21 := eq_true p21; replace q21 := eq_true q21) | (go_at_call 127; (with_reducible refine (spec_l2Digit.calls (bt a0 x7_3) false _ A22.out).mono ?_); rintro e w' ⟨rfl, ⟨nd, rfl⟩⟩; (try (rw [drewN_self wr]; generalize hq_ : World.drewN wr _ = wr; have n0_ : Aside0 (Kd.R k73 73 wr w.heap.size (fun k_ => k_ ≠ gb228) u4 x4_1) := ⟨by rw [← hq_]; exact (by (with_reducible repeat (first | apply rA_ | apply rN_ | apply rD_)); exact HO_4.out)⟩; have n1_ : Aside0 (wr.heap[gb228]? = some (.cells #[.int .i64 1, .string (⟨#[]⟩ : ByteArray)] 73 (0, 0))) := ⟨by rw [← hq_]; exact (by (with_reducible repeat (first | refine kN_ ?_ _ | refine kD_ ?_ | refine kA_ ?_ _)); exact BK228.out)⟩; have n2_ : Aside0 (Below w.heap.size w wr) := ⟨by rw [← hq_]; exact (by repeat (first | (with_reducible first | exact HB.out | apply bA_ | apply bN_ | apply bD_ | refine bE_ ?_ GE228.out) | exact HB.out))⟩; clear HO_4 BK228 HB hq_; have HO_4 := n0_; have BK228 := n1_; have HB := n2_; clear n0_ n1_ n2_)); have hcz36_0 : wr.cell? ⟨gb228, 0, none⟩ = some (.int .i64 1) := (kC_ BK228.out 0).trans rfl; have hcz36_1 : wr.cell? ⟨gb228, 1, none⟩ = some (.string (⟨#[]⟩ : ByteArray)) := (kC_ BK228.out 1).trans rfl; have hfz36_0 := kF_ BK228.out 0; have hfz36_1 := kF_ BK228.out 1) | ((with_reducible refine gate_callee (f := 60) rfl ?_); refine goesL_ (some 63) rfl rfl Try.func60 (by kernel_rfl) rfl #[.agg #[.int .i64 1, .string (a0.extract (x5_1 : Int).toNat (x7_3 : Int).toNat)]] rfl (by (try simp only [mA_, mC_, mN_]); first | done | rfl | (simp only [lD_, lT_]; rfl)) ?_; (with_reducible refine (spec_TokenOk.calls k3 1 (a0.extract (x5_1 : Int).toNat (x7_3 : Int).toNat) true _ A27.out).mono ?_); rintro e w37 ⟨rfl, hb⟩; refine ⟨_, rfl, ?_⟩; have n0_ := aM_ (Kd.R_below (by (with_reducible repeat (first | apply rA_ | apply rN_ | apply rD_)); exact (Kd.R_mono (Kd.R_far (p := ⟨gb228, 1, none⟩) (Kd.R_mono HO_4.out (fun k_ hk => (⟨hk, hk⟩ : _ ∧ k_ ≠ gb228))) (fun _ hk => hk.2) (.string (a0.extract (x5_1 : Int).toNat (x7_3 : Int).toNat))) (fun _ h_ => h_.1))) hb); have n1_ := aM_ (blk_below (g := gb228) (o := .cells #[.int .i64 1, .string (a0.extract (x5_1 : Int).toNat (x7_3 : Int).toNat)] 73 (0, 0)) (by (with_reducible repeat (first | refine kN_ ?_ _ | refine kD_ ?_ | refine kA_ ?_ _)); refine kP_ (cs := #[.int .i64 1, .string (⟨#[]⟩ : ByteArray)]) ?_ 1 _ rfl; (with_reducible repeat (first | refine kN_ ?_ _ | refine kD_ ?_ | refine kA_ ?_ _)); exact BK228.out) hb); have n2_ := aM_ (bT_ (by repeat (first | (with_reducible first | exact HB.out | apply bA_ | apply bN_ | apply bD_ | refine bE_ ?_ GE228.out) | exact HB.out)) hb); clear HO_4; clear BK228; clear HB; have HO_4 := n0_; have BK228 := n1_; have HB := n2_; clear n0_ n1_ n2_; (try clear hb); (try clear hb2); (try clear hk); (try clear hi); obtain ⟨Ao38, co38, eo38⟩ := Kd.R_slice HO_4.out; subst eo38; have hcz39_0 : w37.cell? ⟨gb228, 0, none⟩ = some (.int .i64 1) := (kC_ BK228.out 0).trans rfl; have hcz39_1 : w37.cell? ⟨gb228, 1, none⟩ = some (.string (a0.extract (x5_1 : Int).toNat (x7_3 : Int).toNat)) := (kC_ BK228.out 1).trans rfl; have hfz39_0 := kF_ BK228.out 0; have hfz39_1 := kF_ BK228.out 1) | ((with_reducible refine gate_builtin (b := .append) (xs := #[.tmp 72, .tmp 74]) rfl ?_); (try (refine gate_guard (by rfl) ?_; dsimp only)); at_builtin; refine Kd.R_append k73 (w0 := w) w.heap.size rfl (.tmp 72) (.tmp 74) 66 73 (.agg #[(.int .i64 0), (.string ⟨#[]⟩)]) 24 rfl Try.underlying66 info73 rfl (by decide) (by omega) (.slice Ao38 x4_1.length co38) x4_1 (⟨1, a0.extract (x5_1 : Int).toNat (x7_3 : Int).toNat⟩ : S73) [.int .i64 1, .string (a0.extract (x5_1 : Int).toNat (x7_3 : Int).toNat)] (fun k_ => k_ ≠ gb228) (fun _ => False) rfl rfl ?aP (fun _ hk => hk.elim) ?aF ?aO ?aB ?aS ?aL ?_; (case aP => exact k73_mkM _ _ _ (⟨1, a0.extract (x5_1 : Int).toNat (x7_3 : Int).toNat⟩ : S73)); (case aB => exact (by repeat (first | (with_reducible first | exact HB.out | apply bA_ | apply bN_ | apply bD_ | refine bE_ ?_ GE228.out) | exact HB.out))); (case aF => exact (fun k_ hk => Kd.freshB (g := gb228) (o := .cells #[.int .i64 1, .string (a0.extract (x5_1 : Int).toNat (x7_3 : Int).toNat)] 73 (0, 0)) (by (with_reducible repeat (first | refine kN_ ?_ _ | refine kD_ ?_ | refine kA_ ?_ _)); exact BK228.out) k_ hk)); (case aO => exact (by (with_reducible repeat (first | apply rA_ | apply rN_ | apply rD_)); exact HO_4.out)); (case aS => exact (bS_ (by repeat (first | (with_reducible first | exact HB.out | apply bA_ | apply bN_ | apply bD_ | refine bE_ ?_ GE228.out) | exact HB.out)))); (case aL => have := LMc35.out; omega); intro v237 w40 ho hb hg hat; rw [← Ny236.out] at ho; have n0_ := aM_ (blk_grown (g := gb228) (o := .cells #[.int .i64 1, .string (a0.extract (x5_1 : Int).toNat (x7_3 : Int).toNat)] 73 (0, 0)) (by (with_reducible repeat (first | refine kN_ ?_ _ | refine kD_ ?_ | refine kA_ ?_ _)); exact BK228.out) hg (Kd.R_away HO_4.out (fun _ hk => hk))); have n1_ := aM_ (hb); have n2_ := aM_ (ho); clear BK228; clear HB; clear HO_4; have BK228 := n0_; have HB := n1_; have HO238 := n2_; clear n0_ n1_ n2_; clear ho hb hg hat))
                     go_roundg k3
                     case measure => have := HK1.out; have := HJ6.out; have := HK3.out; omega
                     case rel => exact ⟨(y236), (x7_3), (by first | rfl | (simp; done) | (simp [*]; done)), H', ⟨by have := HK1.out; have := HJ6.out; have := HK3.out; omega⟩, ⟨by (with_reducible repeat (first | apply rA_ | apply rN_ | apply rD_)); exact Kd.R_mono HO238.out (fun _ hk => trivial)⟩, ⟨by repeat (first | (with_reducible first | exact HB.out | apply bA_ | apply bN_ | apply bD_ | refine bE_ ?_ GE228.out) | exact HB.out)⟩⟩
                    ·rw [if_neg c35] at H
                     exact absurd H (by simp)
                  ·replace c28 := Bool.eq_false_iff.mpr c28
                   subst c28
                   have H1 : (some ((([] : List (S73))), x5_1)) = some (r1, r2) := by rw [if_neg (show ¬ (false = true) by decide)] at H; exact H
                   clear H
                   have H := H1
                   clear H1
                   obtain ⟨y239, hy239⟩ : ∃ y_ : List (S73), y_ = (([] : List (S73))) := ⟨_, rfl⟩
                   replace H : (some (y239, x5_1)) = some (r1, r2) := by first | (rw [hy239]; with_reducible exact H) | (have H2_ := (Option.bind_some _ _).symm.trans H; rw [hy239]; with_reducible exact H2_) | (have H2_ := (Option.bind_some _ _).symm.trans H; with_reducible exact H2_) | with_reducible exact H | (rw [hy239]; exact H) | exact H
                   have Ny239 := aM_ hy239
                   clear hy239
                   simp only [Option.some.injEq, Prod.mk.injEq] at H
                   obtain ⟨rfl, rfl⟩ := H
                   have p18 : 0 ≤ (x7_3 : Int) := oT_ (by first | (with_reducible assumption) | assumption)
                   have q18 : x7_3 < (a0.size : Int) := oT_ (by first | (with_reducible assumption) | assumption)
                   have hx18 := bt_at a0 x7_3
                   replace p18 := eq_true p18
                   replace q18 := eq_true q18
                   go_wp2_with (first | (go_at_call 126; (with_reducible refine (spec_l8Small.calls (bt a0 x7_3) false _ A19.out).mono ?_); rintro e w' ⟨rfl, ⟨nd, rfl⟩⟩; (try (rw [drewN_self wr]; generalize hq_ : World.drewN wr _ = wr; have n0_ : Aside0 (Kd.R k73 73 wr w.heap.size (fun k_ => k_ ≠ gb228) u4 x4_1) := ⟨by rw [← hq_]; exact (by (with_reducible repeat (first | apply rA_ | apply rN_ | apply rD_)); exact HO_4.out)⟩; have n1_ : Aside0 (wr.heap[gb228]? = some (.cells #[.int .i64 1, .string (⟨#[]⟩ : ByteArray)] 73 (0, 0))) := ⟨by rw [← hq_]; exact (by (with_reducible repeat (first | refine kN_ ?_ _ | refine kD_ ?_ | refine kA_ ?_ _)); exact BK228.out)⟩; have n2_ : Aside0 (Below w.heap.size w wr) := ⟨by rw [← hq_]; exact (by repeat (first | (with_reducible first | exact HB.out | apply bA_ | apply bN_ | apply bD_ | refine bE_ ?_ GE228.out) | exact HB.out))⟩; clear HO_4 BK228 HB hq_; have HO_4 := n0_; have BK228 := n1_; have HB := n2_; clear n0_ n1_ n2_)); have p21 : 0 ≤ (x7_3 : Int) := oT_ (by first | (with_reducible assumption) | assumption); have q21 : x7_3 < (a0.size : Int) := oT_ (by first | (with_reducible assumption) | assumption); have hx21 := bt_at a0 x7_3; replace p21 := eq_true p21; replace q21 := eq_true q21) | (go_at_call 127; (with_reducible refine (spec_l2Digit.calls (bt a0 x7_3) false _ A22.out).mono ?_); rintro e w' ⟨rfl, ⟨nd, rfl⟩⟩; (try (rw [drewN_self wr]; generalize hq_ : World.drewN wr _ = wr; have n0_ : Aside0 (Kd.R k73 73 wr w.heap.size (fun k_ => k_ ≠ gb228) u4 x4_1) := ⟨by rw [← hq_]; exact (by (with_reducible repeat (first | apply rA_ | apply rN_ | apply rD_)); exact HO_4.out)⟩; have n1_ : Aside0 (wr.heap[gb228]? = some (.cells #[.int .i64 1, .string (⟨#[]⟩ : ByteArray)] 73 (0, 0))) := ⟨by rw [← hq_]; exact (by (with_reducible repeat (first | refine kN_ ?_ _ | refine kD_ ?_ | refine kA_ ?_ _)); exact BK228.out)⟩; have n2_ : Aside0 (Below w.heap.size w wr) := ⟨by rw [← hq_]; exact (by repeat (first | (with_reducible first | exact HB.out | apply bA_ | apply bN_ | apply bD_ | refine bE_ ?_ GE228.out) | exact HB.out))⟩; clear HO_4 BK228 HB hq_; have HO_4 := n0_; have BK228 := n1_; have HB := n2_; clear n0_ n1_ n2_)); have hcz41_0 : wr.cell? ⟨gb228, 0, none⟩ = some (.int .i64 1) := (kC_ BK228.out 0).trans rfl; have hcz41_1 : wr.cell? ⟨gb228, 1, none⟩ = some (.string (⟨#[]⟩ : ByteArray)) := (kC_ BK228.out 1).trans rfl; have hfz41_0 := kF_ BK228.out 0; have hfz41_1 := kF_ BK228.out 1) | ((with_reducible refine gate_callee (f := 60) rfl ?_); refine goesL_ (some 63) rfl rfl Try.func60 (by kernel_rfl) rfl #[.agg #[.int .i64 1, .string (a0.extract (x5_1 : Int).toNat (x7_3 : Int).toNat)]] rfl (by (try simp only [mA_, mC_, mN_]); first | done | rfl | (simp only [lD_, lT_]; rfl)) ?_; (with_reducible refine (spec_TokenOk.calls k3 1 (a0.extract (x5_1 : Int).toNat (x7_3 : Int).toNat) false _ A27.out).mono ?_); rintro e w42 ⟨rfl, hb⟩; refine ⟨_, rfl, ?_⟩; have n0_ := aM_ (Kd.R_below (by (with_reducible repeat (first | apply rA_ | apply rN_ | apply rD_)); exact (Kd.R_mono (Kd.R_far (p := ⟨gb228, 1, none⟩) (Kd.R_mono HO_4.out (fun k_ hk => (⟨hk, hk⟩ : _ ∧ k_ ≠ gb228))) (fun _ hk => hk.2) (.string (a0.extract (x5_1 : Int).toNat (x7_3 : Int).toNat))) (fun _ h_ => h_.1))) hb); have n1_ := aM_ (blk_below (g := gb228) (o := .cells #[.int .i64 1, .string (a0.extract (x5_1 : Int).toNat (x7_3 : Int).toNat)] 73 (0, 0)) (by (with_reducible repeat (first | refine kN_ ?_ _ | refine kD_ ?_ | refine kA_ ?_ _)); refine kP_ (cs := #[.int .i64 1, .string (⟨#[]⟩ : ByteArray)]) ?_ 1 _ rfl; (with_reducible repeat (first | refine kN_ ?_ _ | refine kD_ ?_ | refine kA_ ?_ _)); exact BK228.out) hb); have n2_ := aM_ (bT_ (by repeat (first | (with_reducible first | exact HB.out | apply bA_ | apply bN_ | apply bD_ | refine bE_ ?_ GE228.out) | exact HB.out)) hb); clear HO_4; clear BK228; clear HB; have HO_4 := n0_; have BK228 := n1_; have HB := n2_; clear n0_ n1_ n2_; (try clear hb); (try clear hb2); (try clear hk); (try clear hi)) | ((with_reducible refine gate_dst (N := 70) rfl ?_); (try (refine gate_guard (by rfl) ?_; dsimp only)); refine Kd.R_lit k73 _ 73 ?hg (N := 70) ?hd (xs := ([] : List (S73))) (inner := []) (ok := fun _ => True) (okp := fun _ => True) ?hr ?hp (fun _ hk => hk) trivial (Below.refl _ _) (Nat.le_refl _) (by simp) ?_; (case hd => rfl); (case hg => rfl); (case hr => first | (go_simp; done) | (go_simp; rfl)); (case hp => exact (Reps.none _ _)); intro v240 w43 ho44 hb hg_ hnew_; clear hg_ hnew_; (first | rw [← Ny239.out] at ho44 | (simp only [Int.reduceToNat] at ho44; rw [← Ny239.out] at ho44)); have n0_ := aM_ (Kd.R_elder' (by (with_reducible repeat (first | apply rA_ | apply rN_ | apply rD_)); exact HO_4.out) (Kd.R_base ho44) hb); have n1_ := aM_ (Kd.R_lower (Kd.R_newB (Kd.R_new' ho44 (Kd.R_lt (by (with_reducible repeat (first | apply rA_ | apply rN_ | apply rD_)); exact HO_4.out))) (g := gb228) (o := .cells #[.int .i64 1, .string (a0.extract (x5_1 : Int).toNat (x7_3 : Int).toNat)] 73 (0, 0)) (by (with_reducible repeat (first | refine kN_ ?_ _ | refine kD_ ?_ | refine kA_ ?_ _)); exact BK228.out)) (bS_ (by repeat (first | (with_reducible first | exact HB.out | apply bA_ | apply bN_ | apply bD_ | refine bE_ ?_ GE228.out) | exact HB.out)))); have n2_ := aM_ (blk_below (g := gb228) (o := .cells #[.int .i64 1, .string (a0.extract (x5_1 : Int).toNat (x7_3 : Int).toNat)] 73 (0, 0)) (by (with_reducible repeat (first | refine kN_ ?_ _ | refine kD_ ?_ | refine kA_ ?_ _)); exact BK228.out) hb); have n3_ := aM_ (bT_ (by repeat (first | (with_reducible first | exact HB.out | apply bA_ | apply bN_ | apply bD_ | refine bE_ ?_ GE228.out) | exact HB.out)) hb); clear HO_4; clear BK228; clear HB; have HO_4 := n0_; have HO241 := n1_; have BK228 := n2_; have HB := n3_; clear n0_ n1_ n2_ n3_; clear hb ho44))
                   go_ret2
                   exact ⟨_, by first | rfl | (simp [errW_none, errW_some] <;> rfl) | (simp [*, errW_none, errW_some] <;> rfl), by (with_reducible repeat (first | apply rA_ | apply rN_ | apply rD_)); exact Kd.R_mono HO241.out (fun _ hk => trivial), by repeat (first | (with_reducible first | exact HB.out | apply bA_ | apply bN_ | apply bD_ | refine bE_ ?_ GE228.out) | exact HB.out)⟩
                 ·rw [if_neg c26] at H
                  exact absurd H (by simp)
                ·rw [if_neg c25] at H
                 exact absurd H (by simp)
               ·rw [if_neg c24] at H
                exact absurd H (by simp)
            ·rw [if_neg c17] at H
             exact absurd H (by simp)
           ·rw [if_neg c16] at H
            have c16b0 : decide (x7_3 < (a0.size : Int)) = false := decide_eq_false c16
            clear c16
            by_cases c45 : 0 ≤ x5_1
            ·rw [if_pos c45] at H
             have c45b0 := eq_true c45
             have c45b1 : decide (0 ≤ x5_1) = true := decide_eq_true c45
             clear c45
             by_cases c46 : x5_1 ≤ x7_3
             ·rw [if_pos c46] at H
              have c46b0 := eq_true c46
              have c46b1 : decide (x5_1 ≤ x7_3) = true := decide_eq_true c46
              clear c46
              by_cases c47 : x7_3 ≤ (a0.size : Int)
              ·rw [if_pos c47] at H
               have c47b0 := eq_true c47
               have c47b1 : decide (x7_3 ≤ (a0.size : Int)) = true := decide_eq_true c47
               clear c47
               replace H := oB_ H
               obtain ⟨t242, A480, H⟩ := H
               replace H : (if t242 = true then (if (x4_1.length : Int) = 500 then (some ((([] : List (S73))), x5_1)) else (if x4_1.length < 5864062014805 then (spec_Lex.l0 k3 a0 (x4_1 ++ [(⟨1, a0.extract (x5_1 : Int).toNat (x7_3 : Int).toNat⟩ : S73)]) x7_3) else (none))) else (some ((([] : List (S73))), x5_1))) = some (r1, r2) := H
               have A48 := aM_ A480
               clear A480
               by_cases c49 : t242 = true
               ·subst c49
                have H1 : (if (x4_1.length : Int) = 500 then (some ((([] : List (S73))), x5_1)) else (if x4_1.length < 5864062014805 then (spec_Lex.l0 k3 a0 (x4_1 ++ [(⟨1, a0.extract (x5_1 : Int).toNat (x7_3 : Int).toNat⟩ : S73)]) x7_3) else (none))) = some (r1, r2) := by rw [if_pos rfl] at H; exact H
                clear H
                have H := H1
                clear H1
                by_cases c50 : (x4_1.length : Int) = 500
                ·rw [if_pos c50] at H
                 have c50b0 : ((x4_1.length : Int) == 500) = true := beq_iff_eq.mpr c50
                 have c50b1 : ((x4_1.length : Int) != 500) = false := bne_eq_false_iff_eq.mpr c50
                 clear c50
                 obtain ⟨y243, hy243⟩ : ∃ y_ : List (S73), y_ = (([] : List (S73))) := ⟨_, rfl⟩
                 replace H : (some (y243, x5_1)) = some (r1, r2) := by first | (rw [hy243]; with_reducible exact H) | (have H2_ := (Option.bind_some _ _).symm.trans H; rw [hy243]; with_reducible exact H2_) | (have H2_ := (Option.bind_some _ _).symm.trans H; with_reducible exact H2_) | with_reducible exact H | (rw [hy243]; exact H) | exact H
                 have Ny243 := aM_ hy243
                 clear hy243
                 simp only [Option.some.injEq, Prod.mk.injEq] at H
                 obtain ⟨rfl, rfl⟩ := H
                 have hcz51_0 : wr.cell? ⟨gb228, 0, none⟩ = some (.int .i64 1) := (kC_ BK228.out 0).trans rfl
                 have hcz51_1 : wr.cell? ⟨gb228, 1, none⟩ = some (.string (⟨#[]⟩ : ByteArray)) := (kC_ BK228.out 1).trans rfl
                 have hfz51_0 := kF_ BK228.out 0
                 have hfz51_1 := kF_ BK228.out 1
                 go_wp2_with (first | ((with_reducible refine gate_callee (f := 60) rfl ?_); refine goesL_ (some 63) rfl rfl Try.func60 (by kernel_rfl) rfl #[.agg #[.int .i64 1, .string (a0.extract (x5_1 : Int).toNat (x7_3 : Int).toNat)]] rfl (by (try simp only [mA_, mC_, mN_]); first | done | rfl | (simp only [lD_, lT_]; rfl)) ?_; (with_reducible refine (spec_TokenOk.calls k3 1 (a0.extract (x5_1 : Int).toNat (x7_3 : Int).toNat) true _ A48.out).mono ?_); rintro e w52 ⟨rfl, hb⟩; refine ⟨_, rfl, ?_⟩; have n0_ := aM_ (Kd.R_below (by (with_reducible repeat (first | apply rA_ | apply rN_ | apply rD_)); exact (Kd.R_mono (Kd.R_far (p := ⟨gb228, 1, none⟩) (Kd.R_mono HO_4.out (fun k_ hk => (⟨hk, hk⟩ : _ ∧ k_ ≠ gb228))) (fun _ hk => hk.2) (.string (a0.extract (x5_1 : Int).toNat (x7_3 : Int).toNat))) (fun _ h_ => h_.1))) hb); have n1_ := aM_ (blk_below (g := gb228) (o := .cells #[.int .i64 1, .string (a0.extract (x5_1 : Int).toNat (x7_3 : Int).toNat)] 73 (0, 0)) (by (with_reducible repeat (first | refine kN_ ?_ _ | refine kD_ ?_ | refine kA_ ?_ _)); refine kP_ (cs := #[.int .i64 1, .string (⟨#[]⟩ : ByteArray)]) ?_ 1 _ rfl; (with_reducible repeat (first | refine kN_ ?_ _ | refine kD_ ?_ | refine kA_ ?_ _)); exact BK228.out) hb); have n2_ := aM_ (bT_ (by repeat (first | (with_reducible first | exact HB.out | apply bA_ | apply bN_ | apply bD_ | refine bE_ ?_ GE228.out) | exact HB.out)) hb); clear HO_4; clear BK228; clear HB; have HO_4 := n0_; have BK228 := n1_; have HB := n2_; clear n0_ n1_ n2_; (try clear hb); (try clear hb2); (try clear hk); (try clear hi); obtain ⟨Ao53, co53, eo53⟩ := Kd.R_slice HO_4.out; subst eo53) | ((with_reducible refine gate_dst (N := 70) rfl ?_); (try (refine gate_guard (by rfl) ?_; dsimp only)); refine Kd.R_lit k73 _ 73 ?hg (N := 70) ?hd (xs := ([] : List (S73))) (inner := []) (ok := fun _ => True) (okp := fun _ => True) ?hr ?hp (fun _ hk => hk) trivial (Below.refl _ _) (Nat.le_refl _) (by simp) ?_; (case hd => rfl); (case hg => rfl); (case hr => first | (go_simp; done) | (go_simp; rfl)); (case hp => exact (Reps.none _ _)); intro v244 w54 ho55 hb hg_ hnew_; clear hg_ hnew_; (first | rw [← Ny243.out] at ho55 | (simp only [Int.reduceToNat] at ho55; rw [← Ny243.out] at ho55)); have n0_ := aM_ (Kd.R_elder' (by (with_reducible repeat (first | apply rA_ | apply rN_ | apply rD_)); exact HO_4.out) (Kd.R_base ho55) hb); have n1_ := aM_ (Kd.R_lower (Kd.R_newB (Kd.R_new' ho55 (Kd.R_lt (by (with_reducible repeat (first | apply rA_ | apply rN_ | apply rD_)); exact HO_4.out))) (g := gb228) (o := .cells #[.int .i64 1, .string (a0.extract (x5_1 : Int).toNat (x7_3 : Int).toNat)] 73 (0, 0)) (by (with_reducible repeat (first | refine kN_ ?_ _ | refine kD_ ?_ | refine kA_ ?_ _)); exact BK228.out)) (bS_ (by repeat (first | (with_reducible first | exact HB.out | apply bA_ | apply bN_ | apply bD_ | refine bE_ ?_ GE228.out) | exact HB.out)))); have n2_ := aM_ (blk_below (g := gb228) (o := .cells #[.int .i64 1, .string (a0.extract (x5_1 : Int).toNat (x7_3 : Int).toNat)] 73 (0, 0)) (by (with_reducible repeat (first | refine kN_ ?_ _ | refine kD_ ?_ | refine kA_ ?_ _)); exact BK228.out) hb); have n3_ := aM_ (bT_ (by repeat (first | (with_reducible first | exact HB.out | apply bA_ | apply bN_ | apply bD_ | refine bE_ ?_ GE228.out) | exact HB.out)) hb); clear HO_4; clear BK228; clear HB; have HO_4 := n0_; have HO245 := n1_; have BK228 := n2_; have HB := n3_; clear n0_ n1_ n2_ n3_; clear hb ho55))
                 go_ret2
                 exact ⟨_, by first | rfl | (simp [errW_none, errW_some] <;> rfl) | (simp [*, errW_none, errW_some] <;> rfl), by (with_reducible repeat (first | apply rA_ | apply rN_ | apply rD_)); exact Kd.R_mono HO245.out (fun _ hk => trivial), by repeat (first | (with_reducible first | exact HB.out | apply bA_ | apply bN_ | apply bD_ | refine bE_ ?_ GE228.out) | exact HB.out)⟩
                ·rw [if_neg c50] at H
                 have c50b0 : ((x4_1.length : Int) == 500) = false := beq_eq_false_iff_ne.mpr c50
                 have c50b1 : ((x4_1.length : Int) != 500) = true := bne_iff_ne.mpr c50
                 by_cases c56 : x4_1.length < 5864062014805
                 ·rw [if_pos c56] at H
                  have LMc56 := aM_ c56
                  clear c56
                  obtain ⟨y246, hy246⟩ : ∃ y_ : List (S73), y_ = (x4_1 ++ [(⟨1, a0.extract (x5_1 : Int).toNat (x7_3 : Int).toNat⟩ : S73)]) := ⟨_, rfl⟩
                  replace H : (spec_Lex.l0 k3 a0 y246 x7_3) = some (r1, r2) := by first | (rw [hy246]; with_reducible exact H) | (have H2_ := (Option.bind_some _ _).symm.trans H; rw [hy246]; with_reducible exact H2_) | (have H2_ := (Option.bind_some _ _).symm.trans H; with_reducible exact H2_) | with_reducible exact H | (rw [hy246]; exact H) | exact H
                  have Ny246 := aM_ hy246
                  clear hy246
                  have H' := aM_ H
                  clear H
                  have hcz57_0 : wr.cell? ⟨gb228, 0, none⟩ = some (.int .i64 1) := (kC_ BK228.out 0).trans rfl
                  have hcz57_1 : wr.cell? ⟨gb228, 1, none⟩ = some (.string (⟨#[]⟩ : ByteArray)) := (kC_ BK228.out 1).trans rfl
                  have hfz57_0 := kF_ BK228.out 0
                  have hfz57_1 := kF_ BK228.out 1
                  go_wp2_with (first | ((with_reducible refine gate_callee (f := 60) rfl ?_); refine goesL_ (some 63) rfl rfl Try.func60 (by kernel_rfl) rfl #[.agg #[.int .i64 1, .string (a0.extract (x5_1 : Int).toNat (x7_3 : Int).toNat)]] rfl (by (try simp only [mA_, mC_, mN_]); first | done | rfl | (simp only [lD_, lT_]; rfl)) ?_; (with_reducible refine (spec_TokenOk.calls k3 1 (a0.extract (x5_1 : Int).toNat (x7_3 : Int).toNat) true _ A48.out).mono ?_); rintro e w58 ⟨rfl, hb⟩; refine ⟨_, rfl, ?_⟩; have n0_ := aM_ (Kd.R_below (by (with_reducible repeat (first | apply rA_ | apply rN_ | apply rD_)); exact (Kd.R_mono (Kd.R_far (p := ⟨gb228, 1, none⟩) (Kd.R_mono HO_4.out (fun k_ hk => (⟨hk, hk⟩ : _ ∧ k_ ≠ gb228))) (fun _ hk => hk.2) (.string (a0.extract (x5_1 : Int).toNat (x7_3 : Int).toNat))) (fun _ h_ => h_.1))) hb); have n1_ := aM_ (blk_below (g := gb228) (o := .cells #[.int .i64 1, .string (a0.extract (x5_1 : Int).toNat (x7_3 : Int).toNat)] 73 (0, 0)) (by (with_reducible repeat (first | refine kN_ ?_ _ | refine kD_ ?_ | refine kA_ ?_ _)); refine kP_ (cs := #[.int .i64 1, .string (⟨#[]⟩ : ByteArray)]) ?_ 1 _ rfl; (with_reducible repeat (first | refine kN_ ?_ _ | refine kD_ ?_ | refine kA_ ?_ _)); exact BK228.out) hb); have n2_ := aM_ (bT_ (by repeat (first | (with_reducible first | exact HB.out | apply bA_ | apply bN_ | apply bD_ | refine bE_ ?_ GE228.out) | exact HB.out)) hb); clear HO_4; clear BK228; clear HB; have HO_4 := n0_; have BK228 := n1_; have HB := n2_; clear n0_ n1_ n2_; (try clear hb); (try clear hb2); (try clear hk); (try clear hi); obtain ⟨Ao59, co59, eo59⟩ := Kd.R_slice HO_4.out; subst eo59; have hcz60_0 : w58.cell? ⟨gb228, 0, none⟩ = some (.int .i64 1) := (kC_ BK228.out 0).trans rfl; have hcz60_1 : w58.cell? ⟨gb228, 1, none⟩ = some (.string (a0.extract (x5_1 : Int).toNat (x7_3 : Int).toNat)) := (kC_ BK228.out 1).trans rfl; have hfz60_0 := kF_ BK228.out 0; have hfz60_1 := kF_ BK228.out 1) | ((with_reducible refine gate_builtin (b := .append) (xs := #[.tmp 72, .tmp 74]) rfl ?_); (try (refine gate_guard (by rfl) ?_; dsimp only)); at_builtin; refine Kd.R_append k73 (w0 := w) w.heap.size rfl (.tmp 72) (.tmp 74) 66 73 (.agg #[(.int .i64 0), (.string ⟨#[]⟩)]) 24 rfl Try.underlying66 info73 rfl (by decide) (by omega) (.slice Ao59 x4_1.length co59) x4_1 (⟨1, a0.extract (x5_1 : Int).toNat (x7_3 : Int).toNat⟩ : S73) [.int .i64 1, .string (a0.extract (x5_1 : Int).toNat (x7_3 : Int).toNat)] (fun k_ => k_ ≠ gb228) (fun _ => False) rfl rfl ?aP (fun _ hk => hk.elim) ?aF ?aO ?aB ?aS ?aL ?_; (case aP => exact k73_mkM _ _ _ (⟨1, a0.extract (x5_1 : Int).toNat (x7_3 : Int).toNat⟩ : S73)); (case aB => exact (by repeat (first | (with_reducible first | exact HB.out | apply bA_ | apply bN_ | apply bD_ | refine bE_ ?_ GE228.out) | exact HB.out))); (case aF => exact (fun k_ hk => Kd.freshB (g := gb228) (o := .cells #[.int .i64 1, .string (a0.extract (x5_1 : Int).toNat (x7_3 : Int).toNat)] 73 (0, 0)) (by (with_reducible repeat (first | refine kN_ ?_ _ | refine kD_ ?_ | refine kA_ ?_ _)); exact BK228.out) k_ hk)); (case aO => exact (by (with_reducible repeat (first | apply rA_ | apply rN_ | apply rD_)); exact HO_4.out)); (case aS => exact (bS_ (by repeat (first | (with_reducible first | exact HB.out | apply bA_ | apply bN_ | apply bD_ | refine bE_ ?_ GE228.out) | exact HB.out)))); (case aL => have := LMc56.out; omega); intro v247 w61 ho hb hg hat; rw [← Ny246.out] at ho; have n0_ := aM_ (blk_grown (g := gb228) (o := .cells #[.int .i64 1, .string (a0.extract (x5_1 : Int).toNat (x7_3 : Int).toNat)] 73 (0, 0)) (by (with_reducible repeat (first | refine kN_ ?_ _ | refine kD_ ?_ | refine kA_ ?_ _)); exact BK228.out) hg (Kd.R_away HO_4.out (fun _ hk => hk))); have n1_ := aM_ (hb); have n2_ := aM_ (ho); clear BK228; clear HB; clear HO_4; have BK228 := n0_; have HB := n1_; have HO248 := n2_; clear n0_ n1_ n2_; clear ho hb hg hat))
                  go_roundg k3
                  case measure => have := HK1.out; have := HJ6.out; have := HK3.out; omega
                  case rel => exact ⟨(y246), (x7_3), (by first | rfl | (simp; done) | (simp [*]; done)), H', ⟨by have := HK1.out; have := HJ6.out; have := HK3.out; omega⟩, ⟨by (with_reducible repeat (first | apply rA_ | apply rN_ | apply rD_)); exact Kd.R_mono HO248.out (fun _ hk => trivial)⟩, ⟨by repeat (first | (with_reducible first | exact HB.out | apply bA_ | apply bN_ | apply bD_ | refine bE_ ?_ GE228.out) | exact HB.out)⟩⟩
                 ·rw [if_neg c56] at H
                  exact absurd H (by simp)
               ·replace c49 := Bool.eq_false_iff.mpr c49
                subst c49
                have H1 : (some ((([] : List (S73))), x5_1)) = some (r1, r2) := by rw [if_neg (show ¬ (false = true) by decide)] at H; exact H
                clear H
                have H := H1
                clear H1
                obtain ⟨y249, hy249⟩ : ∃ y_ : List (S73), y_ = (([] : List (S73))) := ⟨_, rfl⟩
                replace H : (some (y249, x5_1)) = some (r1, r2) := by first | (rw [hy249]; with_reducible exact H) | (have H2_ := (Option.bind_some _ _).symm.trans H; rw [hy249]; with_reducible exact H2_) | (have H2_ := (Option.bind_some _ _).symm.trans H; with_reducible exact H2_) | with_reducible exact H | (rw [hy249]; exact H) | exact H
                have Ny249 := aM_ hy249
                clear hy249
                simp only [Option.some.injEq, Prod.mk.injEq] at H
                obtain ⟨rfl, rfl⟩ := H
                have hcz62_0 : wr.cell? ⟨gb228, 0, none⟩ = some (.int .i64 1) := (kC_ BK228.out 0).trans rfl
                have hcz62_1 : wr.cell? ⟨gb228, 1, none⟩ = some (.string (⟨#[]⟩ : ByteArray)) := (kC_ BK228.out 1).trans rfl
                have hfz62_0 := kF_ BK228.out 0
                have hfz62_1 := kF_ BK228.out 1
                go_wp2_with (first | ((with_reducible refine gate_callee (f := 60) rfl ?_); refine goesL_ (some 63) rfl rfl Try.func60 (by kernel_rfl) rfl #[.agg #[.int .i64 1, .string (a0.extract (x5_1 : Int).toNat (x7_3 : Int).toNat)]] rfl (by (try simp only [mA_, mC_, mN_]); first | done | rfl | (simp only [lD_, lT_]; rfl)) ?_; (with_reducible refine (spec_TokenOk.calls k3 1 (a0.extract (x5_1 : Int).toNat (x7_3 : Int).toNat) false _ A48.out).mono ?_); rintro e w63 ⟨rfl, hb⟩; refine ⟨_, rfl, ?_⟩; have n0_ := aM_ (Kd.R_below (by (with_reducible repeat (first | apply rA_ | apply rN_ | apply rD_)); exact (Kd.R_mono (Kd.R_far (p := ⟨gb228, 1, none⟩) (Kd.R_mono HO_4.out (fun k_ hk => (⟨hk, hk⟩ : _ ∧ k_ ≠ gb228))) (fun _ hk => hk.2) (.string (a0.extract (x5_1 : Int).toNat (x7_3 : Int).toNat))) (fun _ h_ => h_.1))) hb); have n1_ := aM_ (blk_below (g := gb228) (o := .cells #[.int .i64 1, .string (a0.extract (x5_1 : Int).toNat (x7_3 : Int).toNat)] 73 (0, 0)) (by (with_reducible repeat (first | refine kN_ ?_ _ | refine kD_ ?_ | refine kA_ ?_ _)); refine kP_ (cs := #[.int .i64 1, .string (⟨#[]⟩ : ByteArray)]) ?_ 1 _ rfl; (with_reducible repeat (first | refine kN_ ?_ _ | refine kD_ ?_ | refine kA_ ?_ _)); exact BK228.out) hb); have n2_ := aM_ (bT_ (by repeat (first | (with_reducible first | exact HB.out | apply bA_ | apply bN_ | apply bD_ | refine bE_ ?_ GE228.out) | exact HB.out)) hb); clear HO_4; clear BK228; clear HB; have HO_4 := n0_; have BK228 := n1_; have HB := n2_; clear n0_ n1_ n2_; (try clear hb); (try clear hb2); (try clear hk); (try clear hi)) | ((with_reducible refine gate_dst (N := 70) rfl ?_); (try (refine gate_guard (by rfl) ?_; dsimp only)); refine Kd.R_lit k73 _ 73 ?hg (N := 70) ?hd (xs := ([] : List (S73))) (inner := []) (ok := fun _ => True) (okp := fun _ => True) ?hr ?hp (fun _ hk => hk) trivial (Below.refl _ _) (Nat.le_refl _) (by simp) ?_; (case hd => rfl); (case hg => rfl); (case hr => first | (go_simp; done) | (go_simp; rfl)); (case hp => exact (Reps.none _ _)); intro v250 w64 ho65 hb hg_ hnew_; clear hg_ hnew_; (first | rw [← Ny249.out] at ho65 | (simp only [Int.reduceToNat] at ho65; rw [← Ny249.out] at ho65)); have n0_ := aM_ (Kd.R_elder' (by (with_reducible repeat (first | apply rA_ | apply rN_ | apply rD_)); exact HO_4.out) (Kd.R_base ho65) hb); have n1_ := aM_ (Kd.R_lower (Kd.R_newB (Kd.R_new' ho65 (Kd.R_lt (by (with_reducible repeat (first | apply rA_ | apply rN_ | apply rD_)); exact HO_4.out))) (g := gb228) (o := .cells #[.int .i64 1, .string (a0.extract (x5_1 : Int).toNat (x7_3 : Int).toNat)] 73 (0, 0)) (by (with_reducible repeat (first | refine kN_ ?_ _ | refine kD_ ?_ | refine kA_ ?_ _)); exact BK228.out)) (bS_ (by repeat (first | (with_reducible first | exact HB.out | apply bA_ | apply bN_ | apply bD_ | refine bE_ ?_ GE228.out) | exact HB.out)))); have n2_ := aM_ (blk_below (g := gb228) (o := .cells #[.int .i64 1, .string (a0.extract (x5_1 : Int).toNat (x7_3 : Int).toNat)] 73 (0, 0)) (by (with_reducible repeat (first | refine kN_ ?_ _ | refine kD_ ?_ | refine kA_ ?_ _)); exact BK228.out) hb); have n3_ := aM_ (bT_ (by repeat (first | (with_reducible first | exact HB.out | apply bA_ | apply bN_ | apply bD_ | refine bE_ ?_ GE228.out) | exact HB.out)) hb); clear HO_4; clear BK228; clear HB; have HO_4 := n0_; have HO251 := n1_; have BK228 := n2_; have HB := n3_; clear n0_ n1_ n2_ n3_; clear hb ho65))
                go_ret2
                exact ⟨_, by first | rfl | (simp [errW_none, errW_some] <;> rfl) | (simp [*, errW_none, errW_some] <;> rfl), by (with_reducible repeat (first | apply rA_ | apply rN_ | apply rD_)); exact Kd.R_mono HO251.out (fun _ hk => trivial), by repeat (first | (with_reducible first | exact HB.out | apply bA_ | apply bN_ | apply bD_ | refine bE_ ?_ GE228.out) | exact HB.out)⟩
              ·rw [if_neg c47] at H
               exact absurd H (by simp)
             ·rw [if_neg c46] at H
              exact absurd H (by simp)
            ·rw [if_neg c45] at H
             exact absurd H (by simp)
        ·replace c13 := Bool.eq_false_iff.mpr c13
         subst c13
         have H1 : (if 0 ≤ x5_1 then (if x5_1 ≤ (wrap64 (x5_1 + 1)) then (if (wrap64 (x5_1 + 1)) ≤ (a0.size : Int) then ((spec_TokenOk.f kj6 2 (a0.extract (x5_1 : Int).toNat ((wrap64 (x5_1 + 1)) : Int).toNat)).bind fun t252 => (if t252 = true then (if (x4_1.length : Int) = 500 then (some ((([] : List (S73))), x5_1)) else (if x4_1.length < 5864062014805 then (spec_Lex.l0 kj6 a0 (x4_1 ++ [(⟨2, a0.extract (x5_1 : Int).toNat ((wrap64 (x5_1 + 1)) : Int).toNat⟩ : S73)]) (wrap64 (x5_1 + 1))) else (none))) else (some ((([] : List (S73))), x5_1)))) else (none)) else (none)) else (none)) = some (r1, r2) := by rw [if_neg (show ¬ (false = true) by decide)] at H; exact H
         clear H
         have H := H1
         clear H1
         by_cases c66 : 0 ≤ x5_1
         ·rw [if_pos c66] at H
          have c66b0 := eq_true c66
          have c66b1 : decide (0 ≤ x5_1) = true := decide_eq_true c66
          clear c66
          by_cases c67 : x5_1 ≤ (wrap64 (x5_1 + 1))
          ·rw [if_pos c67] at H
           have c67b0 := eq_true c67
           have c67b1 : decide (x5_1 ≤ (wrap64 (x5_1 + 1))) = true := decide_eq_true c67
           by_cases c68 : (wrap64 (x5_1 + 1)) ≤ (a0.size : Int)
           ·rw [if_pos c68] at H
            have c68b0 := eq_true c68
            have c68b1 : decide ((wrap64 (x5_1 + 1)) ≤ (a0.size : Int)) = true := decide_eq_true c68
            replace H := oB_ H
            obtain ⟨t252, A690, H⟩ := H
            replace H : (if t252 = true then (if (x4_1.length : Int) = 500 then (some ((([] : List (S73))), x5_1)) else (if x4_1.length < 5864062014805 then (spec_Lex.l0 kj6 a0 (x4_1 ++ [(⟨2, a0.extract (x5_1 : Int).toNat ((wrap64 (x5_1 + 1)) : Int).toNat⟩ : S73)]) (wrap64 (x5_1 + 1))) else (none))) else (some ((([] : List (S73))), x5_1))) = some (r1, r2) := H
            have A69 := aM_ A690
            clear A690
            by_cases c70 : t252 = true
            ·subst c70
             have H1 : (if (x4_1.length : Int) = 500 then (some ((([] : List (S73))), x5_1)) else (if x4_1.length < 5864062014805 then (spec_Lex.l0 kj6 a0 (x4_1 ++ [(⟨2, a0.extract (x5_1 : Int).toNat ((wrap64 (x5_1 + 1)) : Int).toNat⟩ : S73)]) (wrap64 (x5_1 + 1))) else (none))) = some (r1, r2) := by rw [if_pos rfl] at H; exact H
             clear H
             have H := H1
             clear H1
             by_cases c71 : (x4_1.length : Int) = 500
             ·rw [if_pos c71] at H
              have c71b0 : ((x4_1.length : Int) == 500) = true := beq_iff_eq.mpr c71
              have c71b1 : ((x4_1.length : Int) != 500) = false := bne_eq_false_iff_eq.mpr c71
              clear c71
              obtain ⟨y253, hy253⟩ : ∃ y_ : List (S73), y_ = (([] : List (S73))) := ⟨_, rfl⟩
              replace H : (some (y253, x5_1)) = some (r1, r2) := by first | (rw [hy253]; with_reducible exact H) | (have H2_ := (Option.bind_some _ _).symm.trans H; rw [hy253]; with_reducible exact H2_) | (have H2_ := (Option.bind_some _ _).symm.trans H; with_reducible exact H2_) | with_reducible exact H | (rw [hy253]; exact H) | exact H
              have Ny253 := aM_ hy253
              clear hy253
              simp only [Option.some.injEq, Prod.mk.injEq] at H
              obtain ⟨rfl, rfl⟩ := H
              go_wp2_with (first | ((with_reducible refine gate_dst (N := 8) rfl ?_); (try (refine gate_guard (by rfl) ?_; dsimp only)); refine box_event ?hg (N := 8) ?hd (cs := #[.int .i64 0, .string (⟨#[]⟩ : ByteArray)]) (t := 73) ?hr ?_; (case hd => rfl); (case hg => rfl); (case hr => first | (go_simp; done) | (go_simp; rfl)); intro gb228 hg w72 hbox hb; have n0_ := aM_ (Kd.R_below (Kd.R_elderB (by (with_reducible repeat (first | apply rA_ | apply rN_ | apply rD_)); exact HO_4.out) gb228 (Nat.le_of_eq hg.symm)) hb); have n1_ := aM_ (bT_ (by repeat (first | (with_reducible first | exact HB.out | apply bA_ | apply bN_ | apply bD_) | exact HB.out)) hb); have n2_ := aM_ (hbox); have n3_ := aM_ ((by rw [hg]; exact (bS_ (by repeat (first | (with_reducible first | exact HB.out | apply bA_ | apply bN_ | apply bD_) | exact HB.out))) : w.heap.size ≤ gb228)); have n4_ := aM_ ((by rw [hg]; exact (bS_ (by repeat (first | (with_reducible first | exact HB.out | apply bA_ | apply bN_ | apply bD_) | exact HB.out))) : w.heap.size ≤ gb228)); clear HO_4; clear HB; have HO_4 := n0_; have HB := n1_; have BK228 := n2_; have GW228 := n3_; have GE228 := n4_; clear n0_ n1_ n2_ n3_ n4_; clear hb hbox hg; have hcz73_0 : w72.cell? ⟨gb228, 0, none⟩ = some (.int .i64 0) := (kC_ BK228.out 0).trans rfl; have hcz73_1 : w72.cell? ⟨gb228, 1, none⟩ = some (.string (⟨#[]⟩ : ByteArray)) := (kC_ BK228.out 1).trans rfl; have hfz73_0 := kF_ BK228.out 0; have hfz73_1 := kF_ BK228.out 1) | ((with_reducible refine gate_callee (f := 126) rfl ?_); refine goesL_ (some 37) rfl rfl Try.func126 (by kernel_rfl) rfl #[.int .u8 (bt a0 x5_1)] rfl (by (try simp only [mA_, mC_, mN_]); first | done | rfl | (simp only [lD_, lT_]; rfl)) ?_; (with_reducible refine (spec_l8Small.calls (bt a0 x5_1) false _ A12.out).mono ?_); rintro e w' ⟨rfl, ⟨nd, rfl⟩⟩; refine ⟨_, rfl, ?_⟩) | ((with_reducible refine gate_callee (f := 60) rfl ?_); refine goesL_ (some 63) rfl rfl Try.func60 (by kernel_rfl) rfl #[.agg #[.int .i64 2, .string (a0.extract (x5_1 : Int).toNat ((wrap64 (x5_1 + 1)) : Int).toNat)]] rfl (by (try simp only [mA_, mC_, mN_]); first | done | rfl | (simp only [lD_, lT_]; rfl)) ?_; (with_reducible refine (spec_TokenOk.calls kj6 2 (a0.extract (x5_1 : Int).toNat ((wrap64 (x5_1 + 1)) : Int).toNat) true _ A69.out).mono ?_); rintro e w74 ⟨rfl, hb⟩; refine ⟨_, rfl, ?_⟩; have n0_ := aM_ (Kd.R_below (by (with_reducible repeat (first | apply rA_ | apply rN_ | apply rD_)); exact (Kd.R_mono (Kd.R_far (p := ⟨gb228, 1, none⟩) (Kd.R_far (p := ⟨gb228, 1, none⟩) (Kd.R_far (p := ⟨gb228, 0, none⟩) (Kd.R_mono HO_4.out (fun k_ hk => (⟨hk, hk.2⟩ : _ ∧ k_ ≠ gb228))) (fun _ hk => hk.2) (.int .i64 2)) (fun _ hk => hk.2) (.string (⟨#[]⟩ : ByteArray))) (fun _ hk => hk.2) (.string (a0.extract (x5_1 : Int).toNat ((wrap64 (x5_1 + 1)) : Int).toNat))) (fun _ h_ => h_.1))) hb); have n1_ := aM_ (blk_below (g := gb228) (o := .cells #[.int .i64 2, .string (a0.extract (x5_1 : Int).toNat ((wrap64 (x5_1 + 1)) : Int).toNat)] 73 (0, 0)) (by (with_reducible repeat (first | refine kN_ ?_ _ | refine kD_ ?_ | refine kA_ ?_ _)); refine kP_ (cs := #[.int .i64 2, .string (⟨#[]⟩ : ByteArray)]) ?_ 1 _ rfl; (with_reducible repeat (first | refine kN_ ?_ _ | refine kD_ ?_ | refine kA_ ?_ _)); refine kP_ (cs := #[.int .i64 2, .string (⟨#[]⟩ : ByteArray)]) ?_ 1 _ rfl; (with_reducible repeat (first | refine kN_ ?_ _ | refine kD_ ?_ | refine kA_ ?_ _)); refine kP_ (cs := #[.int .i64 0, .string (⟨#[]⟩ : ByteArray)]) ?_ 0 _ rfl; (with_reducible repeat (first | refine kN_ ?_ _ | refine kD_ ?_ | refine kA_ ?_ _)); exact BK228.out) hb); have n2_ := aM_ (bT_ (by repeat (first | (with_reducible first | exact HB.out | apply bA_ | apply bN_ | apply bD_ | refine bE_ ?_ GE228.out) | exact HB.out)) hb); clear HO_4; clear BK228; clear HB; have HO_4 := n0_; have BK228 := n1_; have HB := n2_; clear n0_ n1_ n2_; (try clear hb); (try clear hb2); (try clear hk); (try clear hi); obtain ⟨Ao75, co75, eo75⟩ := Kd.R_slice HO_4.out; subst eo75) | ((with_reducible refine gate_dst (N := 70) rfl ?_); (try (refine gate_guard (by rfl) ?_; dsimp only)); refine Kd.R_lit k73 _ 73 ?hg (N := 70) ?hd (xs := ([] : List (S73))) (inner := []) (ok := fun _ => True) (okp := fun _ => True) ?hr ?hp (fun _ hk => hk) trivial (Below.refl _ _) (Nat.le_refl _) (by simp) ?_; (case hd => rfl); (case hg => rfl); (case hr => first | (go_simp; done) | (go_simp; rfl)); (case hp => exact (Reps.none _ _)); intro v254 w76 ho77 hb hg_ hnew_; clear hg_ hnew_; (first | rw [← Ny253.out] at ho77 | (simp only [Int.reduceToNat] at ho77; rw [← Ny253.out] at ho77)); have n0_ := aM_ (Kd.R_elder' (by (with_reducible repeat (first | apply rA_ | apply rN_ | apply rD_)); exact HO_4.out) (Kd.R_base ho77) hb); have n1_ := aM_ (Kd.R_lower (Kd.R_newB (Kd.R_new' ho77 (Kd.R_lt (by (with_reducible repeat (first | apply rA_ | apply rN_ | apply rD_)); exact HO_4.out))) (g := gb228) (o := .cells #[.int .i64 2, .string (a0.extract (x5_1 : Int).toNat ((wrap64 (x5_1 + 1)) : Int).toNat)] 73 (0, 0)) (by (with_reducible repeat (first | refine kN_ ?_ _ | refine kD_ ?_ | refine kA_ ?_ _)); exact BK228.out)) (bS_ (by repeat (first | (with_reducible first | exact HB.out | apply bA_ | apply bN_ | apply bD_ | refine bE_ ?_ GE228.out) | exact HB.out)))); have n2_ := aM_ (blk_below (g := gb228) (o := .cells #[.int .i64 2, .string (a0.extract (x5_1 : Int).toNat ((wrap64 (x5_1 + 1)) : Int).toNat)] 73 (0, 0)) (by (with_reducible repeat (first | refine kN_ ?_ _ | refine kD_ ?_ | refine kA_ ?_ _)); exact BK228.out) hb); have n3_ := aM_ (bT_ (by repeat (first | (with_reducible first | exact HB.out | apply bA_ | apply bN_ | apply bD_ | refine bE_ ?_ GE228.out) | exact HB.out)) hb); clear HO_4; clear BK228; clear HB; have HO_4 := n0_; have HO255 := n1_; have BK228 := n2_; have HB := n3_; clear n0_ n1_ n2_ n3_; clear hb ho77))
              go_ret2
              exact ⟨_, by first | rfl | (simp [errW_none, errW_some] <;> rfl) | (simp [*, errW_none, errW_some] <;> rfl), by (with_reducible repeat (first | apply rA_ | apply rN_ | apply rD_)); exact Kd.R_mono HO255.out (fun _ hk => trivial), by repeat (first | (with_reducible first | exact HB.out | apply bA_ | apply bN_ | apply bD_ | refine bE_ ?_ GE228.out) | exact HB.out)⟩
             ·rw [if_neg c71] at H
              have c71b0 : ((x4_1.length : Int) == 500) = false := beq_eq_false_iff_ne.mpr c71
              have c71b1 : ((x4_1.length : Int) != 500) = true := bne_iff_ne.mpr c71
              by_cases c78 : x4_1.length < 5864062014805
              ·rw [if_pos c78] at H
               have LMc78 := aM_ c78
               clear c78
               obtain ⟨y256, hy256⟩ : ∃ y_ : List (S73), y_ = (x4_1 ++ [(⟨2, a0.extract (x5_1 : Int).toNat ((wrap64 (x5_1 + 1)) : Int).toNat⟩ : S73)]) := ⟨_, rfl⟩
               replace H : (spec_Lex.l0 kj6 a0 y256 (wrap64 (x5_1 + 1))) = some (r1, r2) := by first | (rw [hy256]; with_reducible exact H) | (have H2_ := (Option.bind_some _ _).symm.trans H; rw [hy256]; with_reducible exact H2_) | (have H2_ := (Option.bind_some _ _).symm.trans H; with_reducible exact H2_) | with_reducible exact H | (rw [hy256]; exact H) | exact H
               have Ny256 := aM_ hy256
               clear hy256
               have H' := aM_ H
               clear H
               go_wp2_with (first | ((with_reducible refine gate_dst (N := 8) rfl ?_); (try (refine gate_guard (by rfl) ?_; dsimp only)); refine box_event ?hg (N := 8) ?hd (cs := #[.int .i64 0, .string (⟨#[]⟩ : ByteArray)]) (t := 73) ?hr ?_; (case hd => rfl); (case hg => rfl); (case hr => first | (go_simp; done) | (go_simp; rfl)); intro gb228 hg w79 hbox hb; have n0_ := aM_ (Kd.R_below (Kd.R_elderB (by (with_reducible repeat (first | apply rA_ | apply rN_ | apply rD_)); exact HO_4.out) gb228 (Nat.le_of_eq hg.symm)) hb); have n1_ := aM_ (bT_ (by repeat (first | (with_reducible first | exact HB.out | apply bA_ | apply bN_ | apply bD_) | exact HB.out)) hb); have n2_ := aM_ (hbox); have n3_ := aM_ ((by rw [hg]; exact (bS_ (by repeat (first | (with_reducible first | exact HB.out | apply bA_ | apply bN_ | apply bD_) | exact HB.out))) : w.heap.size ≤ gb228)); have n4_ := aM_ ((by rw [hg]; exact (bS_ (by repeat (first | (with_reducible first | exact HB.out | apply bA_ | apply bN_ | apply bD_) | exact HB.out))) : w.heap.size ≤ gb228)); clear HO_4; clear HB; have HO_4 := n0_; have HB := n1_; have BK228 := n2_; have GW228 := n3_; have GE228 := n4_; clear n0_ n1_ n2_ n3_ n4_; clear hb hbox hg; have hcz80_0 : w79.cell? ⟨gb228, 0, none⟩ = some (.int .i64 0) := (kC_ BK228.out 0).trans rfl; have hcz80_1 : w79.cell? ⟨gb228, 1, none⟩ = some (.string (⟨#[]⟩ : ByteArray)) := (kC_ BK228.out 1).trans rfl; have hfz80_0 := kF_ BK228.out 0; have hfz80_1 := kF_ BK228.out 1) | ((with_reducible refine gate_callee (f := 126) rfl ?_); refine goesL_ (some 37) rfl rfl Try.func126 (by kernel_rfl) rfl #[.int .u8 (bt a0 x5_1)] rfl (by (try simp only [mA_, mC_, mN_]); first | done | rfl | (simp only [lD_, lT_]; rfl)) ?_; (with_reducible refine (spec_l8Small.calls (bt a0 x5_1) false _ A12.out).mono ?_); rintro e w' ⟨rfl, ⟨nd, rfl⟩⟩; refine ⟨_, rfl, ?_⟩) | ((with_reducible refine gate_callee (f := 60) rfl ?_); refine goesL_ (some 63) rfl rfl Try.func60 (by kernel_rfl) rfl #[.agg #[.int .i64 2, .string (a0.extract (x5_1 : Int).toNat ((wrap64 (x5_1 + 1)) : Int).toNat)]] rfl (by (try simp only [mA_, mC_, mN_]); first | done | rfl | (simp only [lD_, lT_]; rfl)) ?_; (with_reducible refine (spec_TokenOk.calls kj6 2 (a0.extract (x5_1 : Int).toNat ((wrap64 (x5_1 + 1)) : Int).toNat) true _ A69.out).mono ?_); rintro e w81 ⟨rfl, hb⟩; refine ⟨_, rfl, ?_⟩; have n0_ := aM_ (Kd.R_below (by (with_reducible repeat (first | apply rA_ | apply rN_ | apply rD_)); exact (Kd.R_mono (Kd.R_far (p := ⟨gb228, 1, none⟩) (Kd.R_far (p := ⟨gb228, 1, none⟩) (Kd.R_far (p := ⟨gb228, 0, none⟩) (Kd.R_mono HO_4.out (fun k_ hk => (⟨hk, hk.2⟩ : _ ∧ k_ ≠ gb228))) (fun _ hk => hk.2) (.int .i64 2)) (fun _ hk => hk.2) (.string (⟨#[]⟩ : ByteArray))) (fun _ hk => hk.2) (.string (a0.extract (x5_1 : Int).toNat ((wrap64 (x5_1 + 1)) : Int).toNat))) (fun _ h_ => h_.1))) hb); have n1_ := aM_ (blk_below (g := gb228) (o := .cells #[.int .i64 2, .string (a0.extract (x5_1 : Int).toNat ((wrap64 (x5_1 + 1)) : Int).toNat)] 73 (0, 0)) (by (with_reducible repeat (first | refine kN_ ?_ _ | refine kD_ ?_ | refine kA_ ?_ _)); refine kP_ (cs := #[.int .i64 2, .string (⟨#[]⟩ : ByteArray)]) ?_ 1 _ rfl; (with_reducible repeat (first | refine kN_ ?_ _ | refine kD_ ?_ | refine kA_ ?_ _)); refine kP_ (cs := #[.int .i64 2, .string (⟨#[]⟩ : ByteArray)]) ?_ 1 _ rfl; (with_reducible repeat (first | refine kN_ ?_ _ | refine kD_ ?_ | refine kA_ ?_ _)); refine kP_ (cs := #[.int .i64 0, .string (⟨#[]⟩ : ByteArray)]) ?_ 0 _ rfl; (with_reducible repeat (first | refine kN_ ?_ _ | refine kD_ ?_ | refine kA_ ?_ _)); exact BK228.out) hb); have n2_ := aM_ (bT_ (by repeat (first | (with_reducible first | exact HB.out | apply bA_ | apply bN_ | apply bD_ | refine bE_ ?_ GE228.out) | exact HB.out)) hb); clear HO_4; clear BK228; clear HB; have HO_4 := n0_; have BK228 := n1_; have HB := n2_; clear n0_ n1_ n2_; (try clear hb); (try clear hb2); (try clear hk); (try clear hi); obtain ⟨Ao82, co82, eo82⟩ := Kd.R_slice HO_4.out; subst eo82; have hcz83_0 : w81.cell? ⟨gb228, 0, none⟩ = some (.int .i64 2) := (kC_ BK228.out 0).trans rfl; have hcz83_1 : w81.cell? ⟨gb228, 1, none⟩ = some (.string (a0.extract (x5_1 : Int).toNat ((wrap64 (x5_1 + 1)) : Int).toNat)) := (kC_ BK228.out 1).trans rfl; have hfz83_0 := kF_ BK228.out 0; have hfz83_1 := kF_ BK228.out 1) | ((with_reducible refine gate_builtin (b := .append) (xs := #[.tmp 72, .tmp 74]) rfl ?_); (try (refine gate_guard (by rfl) ?_; dsimp only)); at_builtin; refine Kd.R_append k73 (w0 := w) w.heap.size rfl (.tmp 72) (.tmp 74) 66 73 (.agg #[(.int .i64 0), (.string ⟨#[]⟩)]) 24 rfl Try.underlying66 info73 rfl (by decide) (by omega) (.slice Ao82 x4_1.length co82) x4_1 (⟨2, a0.extract (x5_1 : Int).toNat ((wrap64 (x5_1 + 1)) : Int).toNat⟩ : S73) [.int .i64 2, .string (a0.extract (x5_1 : Int).toNat ((wrap64 (x5_1 + 1)) : Int).toNat)] (fun k_ => k_ ≠ gb228) (fun _ => False) rfl rfl ?aP (fun _ hk => hk.elim) ?aF ?aO ?aB ?aS ?aL ?_; (case aP => exact k73_mkM _ _ _ (⟨2, a0.extract (x5_1 : Int).toNat ((wrap64 (x5_1 + 1)) : Int).toNat⟩ : S73)); (case aB => exact (by repeat (first | (with_reducible first | exact HB.out | apply bA_ | apply bN_ | apply bD_ | refine bE_ ?_ GE228.out) | exact HB.out))); (case aF => exact (fun k_ hk => Kd.freshB (g := gb228) (o := .cells #[.int .i64 2, .string (a0.extract (x5_1 : Int).toNat ((wrap64 (x5_1 + 1)) : Int).toNat)] 73 (0, 0)) (by (with_reducible repeat (first | refine kN_ ?_ _ | refine kD_ ?_ | refine kA_ ?_ _)); exact BK228.out) k_ hk)); (case aO => exact (by (with_reducible repeat (first | apply rA_ | apply rN_ | apply rD_)); exact Kd.R_mono HO_4.out (fun _ hk => hk.2))); (case aS => exact (bS_ (by repeat (first | (with_reducible first | exact HB.out | apply bA_ | apply bN_ | apply bD_ | refine bE_ ?_ GE228.out) | exact HB.out)))); (case aL => have := LMc78.out; omega); intro v257 w84 ho hb hg hat; rw [← Ny256.out] at ho; have n0_ := aM_ (blk_grown (g := gb228) (o := .cells #[.int .i64 2, .string (a0.extract (x5_1 : Int).toNat ((wrap64 (x5_1 + 1)) : Int).toNat)] 73 (0, 0)) (by (with_reducible repeat (first | refine kN_ ?_ _ | refine kD_ ?_ | refine kA_ ?_ _)); exact BK228.out) hg (Kd.R_away HO_4.out (fun _ hk => hk.2))); have n1_ := aM_ (hb); have n2_ := aM_ (ho); clear BK228; clear HB; clear HO_4; have BK228 := n0_; have HB := n1_; have HO258 := n2_; clear n0_ n1_ n2_; clear ho hb hg hat))
               go_roundg kj6
               case measure => have := HK1.out; have := HJ6.out; omega
               case rel => exact ⟨(y256), (wrap64 (x5_1 + 1)), (by first | rfl | (simp; done) | (simp [*]; done)), H', ⟨by have := HK1.out; have := HJ6.out; omega⟩, ⟨by (with_reducible repeat (first | apply rA_ | apply rN_ | apply rD_)); exact Kd.R_mono HO258.out (fun _ hk => trivial)⟩, ⟨by repeat (first | (with_reducible first | exact HB.out | apply bA_ | apply bN_ | apply bD_ | refine bE_ ?_ GE228.out) | exact HB.out)⟩⟩
              ·rw [if_neg c78] at H
               exact absurd H (by simp)
            ·replace c70 := Bool.eq_false_iff.mpr c70
             subst c70
             have H1 : (some ((([] : List (S73))), x5_1)) = some (r1, r2) := by rw [if_neg (show ¬ (false = true) by decide)] at H; exact H
             clear H
             have H := H1
             clear H1
             obtain ⟨y259, hy259⟩ : ∃ y_ : List (S73), y_ = (([] : List (S73))) := ⟨_, rfl⟩
             replace H : (some (y259, x5_1)) = some (r1, r2) := by first | (rw [hy259]; with_reducible exact H) | (have H2_ := (Option.bind_some _ _).symm.trans H; rw [hy259]; with_reducible exact H2_) | (have H2_ := (Option.bind_some _ _).symm.trans H; with_reducible exact H2_) | with_reducible exact H | (rw [hy259]; exact H) | exact H
             have Ny259 := aM_ hy259
             clear hy259
             simp only [Option.some.injEq, Prod.mk.injEq] at H
             obtain ⟨rfl, rfl⟩ := H
             go_wp2_with (first | ((with_reducible refine gate_dst (N := 8) rfl ?_); (try (refine gate_guard (by rfl) ?_; dsimp only)); refine box_event ?hg (N := 8) ?hd (cs := #[.int .i64 0, .string (⟨#[]⟩ : ByteArray)]) (t := 73) ?hr ?_; (case hd => rfl); (case hg => rfl); (case hr => first | (go_simp; done) | (go_simp; rfl)); intro gb228 hg w85 hbox hb; have n0_ := aM_ (Kd.R_below (Kd.R_elderB (by (with_reducible repeat (first | apply rA_ | apply rN_ | apply rD_)); exact HO_4.out) gb228 (Nat.le_of_eq hg.symm)) hb); have n1_ := aM_ (bT_ (by repeat (first | (with_reducible first | exact HB.out | apply bA_ | apply bN_ | apply bD_) | exact HB.out)) hb); have n2_ := aM_ (hbox); have n3_ := aM_ ((by rw [hg]; exact (bS_ (by repeat (first | (with_reducible first | exact HB.out | apply bA_ | apply bN_ | apply bD_) | exact HB.out))) : w.heap.size ≤ gb228)); have n4_ := aM_ ((by rw [hg]; exact (bS_ (by repeat (first | (with_reducible first | exact HB.out | apply bA_ | apply bN_ | apply bD_) | exact HB.out))) : w.heap.size ≤ gb228)); clear HO_4; clear HB; have HO_4 := n0_; have HB := n1_; have BK228 := n2_; have GW228 := n3_; have GE228 := n4_; clear n0_ n1_ n2_ n3_ n4_; clear hb hbox hg; have hcz86_0 : w85.cell? ⟨gb228, 0, none⟩ = some (.int .i64 0) := (kC_ BK228.out 0).trans rfl; have hcz86_1 : w85.cell? ⟨gb228, 1, none⟩ = some (.string (⟨#[]⟩ : ByteArray)) := (kC_ BK228.out 1).trans rfl; have hfz86_0 := kF_ BK228.out 0; have hfz86_1 := kF_ BK228.out 1) | ((with_reducible refine gate_callee (f := 126) rfl ?_); refine goesL_ (some 37) rfl rfl Try.func126 (by kernel_rfl) rfl #[.int .u8 (bt a0 x5_1)] rfl (by (try simp only [mA_, mC_, mN_]); first | done | rfl | (simp only [lD_, lT_]; rfl)) ?_; (with_reducible refine (spec_l8Small.calls (bt a0 x5_1) false _ A12.out).mono ?_); rintro e w' ⟨rfl, ⟨nd, rfl⟩⟩; refine ⟨_, rfl, ?_⟩) | ((with_reducible refine gate_callee (f := 60) rfl ?_); refine goesL_ (some 63) rfl rfl Try.func60 (by kernel_rfl) rfl #[.agg #[.int .i64 2, .string (a0.extract (x5_1 : Int).toNat ((wrap64 (x5_1 + 1)) : Int).toNat)]] rfl (by (try simp only [mA_, mC_, mN_]); first | done | rfl | (simp only [lD_, lT_]; rfl)) ?_; (with_reducible refine (spec_TokenOk.calls kj6 2 (a0.extract (x5_1 : Int).toNat ((wrap64 (x5_1 + 1)) : Int).toNat) false _ A69.out).mono ?_); rintro e w87 ⟨rfl, hb⟩; refine ⟨_, rfl, ?_⟩; have n0_ := aM_ (Kd.R_below (by (with_reducible repeat (first | apply rA_ | apply rN_ | apply rD_)); exact (Kd.R_mono (Kd.R_far (p := ⟨gb228, 1, none⟩) (Kd.R_far (p := ⟨gb228, 1, none⟩) (Kd.R_far (p := ⟨gb228, 0, none⟩) (Kd.R_mono HO_4.out (fun k_ hk => (⟨hk, hk.2⟩ : _ ∧ k_ ≠ gb228))) (fun _ hk => hk.2) (.int .i64 2)) (fun _ hk => hk.2) (.string (⟨#[]⟩ : ByteArray))) (fun _ hk => hk.2) (.string (a0.extract (x5_1 : Int).toNat ((wrap64 (x5_1 + 1)) : Int).toNat))) (fun _ h_ => h_.1))) hb); have n1_ := aM_ (blk_below (g := gb228) (o := .cells #[.int .i64 2, .string (a0.extract (x5_1 : Int).toNat ((wrap64 (x5_1 + 1)) : Int).toNat)] 73 (0, 0)) (by (with_reducible repeat (first | refine kN_ ?_ _ | refine kD_ ?_ | refine kA_ ?_ _)); refine kP_ (cs := #[.int .i64 2, .string (⟨#[]⟩ : ByteArray)]) ?_ 1 _ rfl; (with_reducible repeat (first | refine kN_ ?_ _ | refine kD_ ?_ | refine kA_ ?_ _)); refine kP_ (cs := #[.int .i64 2, .string (⟨#[]⟩ : ByteArray)]) ?_ 1 _ rfl; (with_reducible repeat (first | refine kN_ ?_ _ | refine kD_ ?_ | refine kA_ ?_ _)); refine kP_ (cs := #[.int .i64 0, .string (⟨#[]⟩ : ByteArray)]) ?_ 0 _ rfl; (with_reducible repeat (first | refine kN_ ?_ _ | refine kD_ ?_ | refine kA_ ?_ _)); exact BK228.out) hb); have n2_ := aM_ (bT_ (by repeat (first | (with_reducible first | exact HB.out | apply bA_ | apply bN_ | apply bD_ | refine bE_ ?_ GE228.out) | exact HB.out)) hb); clear HO_4; clear BK228; clear HB; have HO_4 := n0_; have BK228 := n1_; have HB := n2_; clear n0_ n1_ n2_; (try clear hb); (try clear hb2); (try clear hk); (try clear hi)) | ((with_reducible refine gate_dst (N := 70) rfl ?_); (try (refine gate_guard (by rfl) ?_; dsimp only)); refine Kd.R_lit k73 _ 73 ?hg (N := 70) ?hd (xs := ([] : List (S73))) (inner := []) (ok := fun _ => True) (okp := fun _ => True) ?hr ?hp (fun _ hk => hk) trivial (Below.refl _ _) (Nat.le_refl _) (by simp) ?_; (case hd => rfl); (case hg => rfl); (case hr => first | (go_simp; done) | (go_simp; rfl)); (case hp => exact (Reps.none _ _)); intro v260 w88 ho89 hb hg_ hnew_; clear hg_ hnew_; (first | rw [← Ny259.out] at ho89 | (simp only [Int.reduceToNat] at ho89; rw [← Ny259.out] at ho89)); have n0_ := aM_ (Kd.R_elder' (by (with_reducible repeat (first | apply rA_ | apply rN_ | apply rD_)); exact HO_4.out) (Kd.R_base ho89) hb); have n1_ := aM_ (Kd.R_lower (Kd.R_newB (Kd.R_new' ho89 (Kd.R_lt (by (with_reducible repeat (first | apply rA_ | apply rN_ | apply rD_)); exact HO_4.out))) (g := gb228) (o := .cells #[.int .i64 2, .string (a0.extract (x5_1 : Int).toNat ((wrap64 (x5_1 + 1)) : Int).toNat)] 73 (0, 0)) (by (with_reducible repeat (first | refine kN_ ?_ _ | refine kD_ ?_ | refine kA_ ?_ _)); exact BK228.out)) (bS_ (by repeat (first | (with_reducible first | exact HB.out | apply bA_ | apply bN_ | apply bD_ | refine bE_ ?_ GE228.out) | exact HB.out)))); have n2_ := aM_ (blk_below (g := gb228) (o := .cells #[.int .i64 2, .string (a0.extract (x5_1 : Int).toNat ((wrap64 (x5_1 + 1)) : Int).toNat)] 73 (0, 0)) (by (with_reducible repeat (first | refine kN_ ?_ _ | refine kD_ ?_ | refine kA_ ?_ _)); exact BK228.out) hb); have n3_ := aM_ (bT_ (by repeat (first | (with_reducible first | exact HB.out | apply bA_ | apply bN_ | apply bD_ | refine bE_ ?_ GE228.out) | exact HB.out)) hb); clear HO_4; clear BK228; clear HB; have HO_4 := n0_; have HO261 := n1_; have BK228 := n2_; have HB := n3_; clear n0_ n1_ n2_ n3_; clear hb ho89))
             go_ret2
             exact ⟨_, by first | rfl | (simp [errW_none, errW_some] <;> rfl) | (simp [*, errW_none, errW_some] <;> rfl), by (with_reducible repeat (first | apply rA_ | apply rN_ | apply rD_)); exact Kd.R_mono HO261.out (fun _ hk => trivial), by repeat (first | (with_reducible first | exact HB.out | apply bA_ | apply bN_ | apply bD_ | refine bE_ ?_ GE228.out) | exact HB.out)⟩
           ·rw [if_neg c68] at H
            exact absurd H (by simp)
          ·rw [if_neg c67] at H
           exact absurd H (by simp)
         ·rw [if_neg c66] at H
          exact absurd H (by simp)
    ·rw [if_neg c5] at H
     exact absurd H (by simp)
   ·rw [if_neg c4] at H
    have c4b0 : decide (x5_1 < (a0.size : Int)) = false := decide_eq_false c4
    clear c4
    simp only [Option.some.injEq, Prod.mk.injEq] at H
    obtain ⟨rfl, rfl⟩ := H
    go_wp2
    go_ret2
    exact ⟨_, by first | rfl | (simp [errW_none, errW_some] <;> rfl) | (simp [*, errW_none, errW_some] <;> rfl), by (with_reducible repeat (first | apply rA_ | apply rN_ | apply rD_)); exact HO_4.out, by repeat (first | (with_reducible first | exact HB.out | apply bA_ | apply bN_ | apply bD_) | exact HB.out)⟩

/-! ### spec_DrawTokenOk: function 58 -/
def spec_DrawTokenOk.f (k : Nat) (l0 : List Int) : Option (Int × ByteArray) := (spec_l1New.f k l0).bind fun bt263 => ((spec_l8Token.f bt263.1 bt263.2.1 bt263.2.2).bind fun bt267 => ((spec_l1Below.f bt263.1 bt267.2.2.1 bt267.2.2.2 4).bind fun bt272 => (if bt272.1 = 0 then ((spec_l1Below.f bt263.1 bt272.2.1 bt272.2.2 4).bind fun bt275 => (some (bt275.1, bt267.2.1))) else (if bt272.1 = 1 then ((spec_l1Str.f bt263.1 bt272.2.1 bt272.2.2 (([(⟨#[]⟩ : ByteArray), (⟨#[65]⟩ : ByteArray), (⟨#[49, 97]⟩ : ByteArray), (⟨#[40]⟩ : ByteArray), (⟨#[110, 105, 110, 101, 108, 101, 116, 116, 101]⟩ : ByteArray)] : List ByteArray))).bind fun bt281 => (some (bt267.1, bt281.1))) else (some (bt267.1, bt267.2.1))))))
theorem spec_DrawTokenOk.mono : ∀ a0 k, LeO (spec_DrawTokenOk.f k a0) (spec_DrawTokenOk.f (k + 1) a0) := by
 intro a0 k
 unfold spec_DrawTokenOk.f
 repeat' first
   | (with_reducible exact spec_l1New.mono _ _)
   | (with_reducible exact LeO.refl _)
   | (with_reducible exact LeO.none _)
   | (with_reducible refine LeO.ite ?_ ?_)
   | (with_reducible refine LeO.bind ?_ (fun _ => ?_))
   | exact spec_l1New.mono _ _
   | exact LeO.none _
   | refine LeO.ite ?_ ?_
   | refine LeO.bind ?_ (fun _ => ?_)
set_option maxHeartbeats 8000000 in
set_option maxRecDepth 100000 in
theorem spec_DrawTokenOk.calls (k : Nat) (A0 : Option Addr) (c0 : Nat) (l0 : List Int) (r1 : Int) (r2 : ByteArray) (w : World) (hr0 : Kd.C (Kd.int .u8) w A0 l0.length l0) (hc0 : l0.length ≤ c0) (h : spec_DrawTokenOk.f k l0 = some (r1, r2)) :
  Calls Try.prog 58 #[.slice A0 l0.length c0] w fun e w' => e = .returned (.agg #[.int .i64 r1, .string r2]) ∧ Below w.heap.size w w' := by
 have hu73 := Try.underlying73
 have HR0 := aM_ hr0
 have HC0 := aM_ hc0
 clear hr0 hc0
 have HB := aM_ (Below.refl w.heap.size w)
 have H : ((spec_l1New.f k l0).bind fun bt263 => ((spec_l8Token.f bt263.1 bt263.2.1 bt263.2.2).bind fun bt267 => ((spec_l1Below.f bt263.1 bt267.2.2.1 bt267.2.2.2 4).bind fun bt272 => (if bt272.1 = 0 then ((spec_l1Below.f bt263.1 bt272.2.1 bt272.2.2 4).bind fun bt275 => (some (bt275.1, bt267.2.1))) else (if bt272.1 = 1 then ((spec_l1Str.f bt263.1 bt272.2.1 bt272.2.2 (([(⟨#[]⟩ : ByteArray), (⟨#[65]⟩ : ByteArray), (⟨#[49, 97]⟩ : ByteArray), (⟨#[40]⟩ : ByteArray), (⟨#[110, 105, 110, 101, 108, 101, 116, 116, 101]⟩ : ByteArray)] : List ByteArray))).bind fun bt281 => (some (bt267.1, bt281.1))) else (some (bt267.1, bt267.2.1))))))) = some (r1, r2) := h
 clear h
 replace H := oB_ H
 obtain ⟨⟨t263, t264, t265⟩, A20, H⟩ := H
 replace H : ((spec_l8Token.f t263 t264 t265).bind fun bt267 => ((spec_l1Below.f t263 bt267.2.2.1 bt267.2.2.2 4).bind fun bt272 => (if bt272.1 = 0 then ((spec_l1Below.f t263 bt272.2.1 bt272.2.2 4).bind fun bt275 => (some (bt275.1, bt267.2.1))) else (if bt272.1 = 1 then ((spec_l1Str.f t263 bt272.2.1 bt272.2.2 (([(⟨#[]⟩ : ByteArray), (⟨#[65]⟩ : ByteArray), (⟨#[49, 97]⟩ : ByteArray), (⟨#[40]⟩ : ByteArray), (⟨#[110, 105, 110, 101, 108, 101, 116, 116, 101]⟩ : ByteArray)] : List ByteArray))).bind fun bt281 => (some (bt267.1, bt281.1))) else (some (bt267.1, bt267.2.1)))))) = some (r1, r2) := H
 have A2 := aM_ A20
 clear A20
 replace H := oB_ H
 obtain ⟨⟨t267, t268, t269, t270⟩, A30, H⟩ := H
 replace H : ((spec_l1Below.f t263 t269 t270 4).bind fun bt272 => (if bt272.1 = 0 then ((spec_l1Below.f t263 bt272.2.1 bt272.2.2 4).bind fun bt275 => (some (bt275.1, t268))) else (if bt272.1 = 1 then ((spec_l1Str.f t263 bt272.2.1 bt272.2.2 (([(⟨#[]⟩ : ByteArray), (⟨#[65]⟩ : ByteArray), (⟨#[49, 97]⟩ : ByteArray), (⟨#[40]⟩ : ByteArray), (⟨#[110, 105, 110, 101, 108, 101, 116, 116, 101]⟩ : ByteArray)] : List ByteArray))).bind fun bt281 => (some (t267, bt281.1))) else (some (t267, t268))))) = some (r1, r2) := H
 have A3 := aM_ A30
 clear A30
 replace H := oB_ H
 obtain ⟨⟨t272, t273, t274⟩, A40, H⟩ := H
 replace H : (if t272 = 0 then ((spec_l1Below.f t263 t273 t274 4).bind fun bt275 => (some (bt275.1, t268))) else (if t272 = 1 then ((spec_l1Str.f t263 t273 t274 (([(⟨#[]⟩ : ByteArray), (⟨#[65]⟩ : ByteArray), (⟨#[49, 97]⟩ : ByteArray), (⟨#[40]⟩ : ByteArray), (⟨#[110, 105, 110, 101, 108, 101, 116, 116, 101]⟩ : ByteArray)] : List ByteArray))).bind fun bt281 => (some (t267, bt281.1))) else (some (t267, t268)))) = some (r1, r2) := H
 have A4 := aM_ A40
 clear A40
 by_cases c5 : t272 = 0
 ·rw [if_pos c5] at H
  have c5b0 : (t272 == 0) = true := beq_iff_eq.mpr c5
  have c5b1 : (t272 != 0) = false := bne_eq_false_iff_eq.mpr c5
  clear c5
  replace H := oB_ H
  obtain ⟨⟨t275, t276, t277⟩, A60, H⟩ := H
  replace H : (some (t275, t268)) = some (r1, r2) := H
  have A6 := aM_ A60
  clear A60
  simp only [Option.some.injEq, Prod.mk.injEq] at H
  obtain ⟨rfl, rfl⟩ := H
  go_enter Try.func58, Try.ntmps58
  go_wp2_with (first | ((with_reducible refine gate_dst (N := 2) rfl ?_); refine box_event ?hg (N := 2) ?hd (cs := #[.int .i64 0, .string (⟨#[]⟩ : ByteArray)]) (t := 73) ?hr ?_; (case hd => rfl); (case hg => rfl); (case hr => first | (go_simp; done) | (go_simp; rfl)); intro gb262 hg w7 hbox hb; have n0_ := aM_ (bT_ (by repeat (first | (with_reducible first | exact HB.out | apply bA_ | apply bN_ | apply bD_) | exact HB.out)) hb); have n1_ := aM_ (hbox); have n2_ := aM_ ((by rw [hg]; exact (bS_ (by repeat (first | (with_reducible first | exact HB.out | apply bA_ | apply bN_ | apply bD_) | exact HB.out))) : w.heap.size ≤ gb262)); have n3_ := aM_ ((by rw [hg]; exact (bS_ (by repeat (first | (with_reducible first | exact HB.out | apply bA_ | apply bN_ | apply bD_) | exact HB.out))) : w.heap.size ≤ gb262)); clear HB; have HB := n0_; have BK262 := n1_; have GW262 := n2_; have GE262 := n3_; clear n0_ n1_ n2_ n3_; clear hb hbox hg) | ((with_reducible refine gate_callee (f := 83) rfl ?_); refine goesL_ (some 6) rfl rfl Try.func83 (by kernel_rfl) rfl #[.slice A0 l0.length c0] rfl (by (try simp only [mA_, mC_, mN_]); first | done | rfl | (simp only [lD_, lT_]; rfl)) ?_; (with_reducible refine (spec_l1New.calls k _ _ l0 t263 t264 t265 w _ ?side1 ?side2 ?side3 A2.out).mono ?_); (case side1 => repeat (first | (with_reducible first | exact HB.out | apply bA_ | apply bN_ | apply bD_ | refine bE_ ?_ GE262.out) | exact HB.out)); (case side2 => exact HR0.out); (case side3 => exact HC0.out); rintro e w8 ⟨g266, rfl, hi, hb, hb2⟩; refine ⟨_, rfl, ?_⟩; have n0_ := aM_ (blk_below (g := gb262) (o := .cells #[.int .i64 0, .string (⟨#[]⟩ : ByteArray)] 73 (0, 0)) (by (with_reducible repeat (first | refine kN_ ?_ _ | refine kD_ ?_ | refine kA_ ?_ _)); exact BK262.out) hb2); have n1_ := aM_ (hb); have n2_ := aM_ (hi); have n3_ := aM_ (J155.ne_blk hi (blk_below (g := gb262) (o := .cells #[.int .i64 0, .string (⟨#[]⟩ : ByteArray)] 73 (0, 0)) (by (with_reducible repeat (first | refine kN_ ?_ _ | refine kD_ ?_ | refine kA_ ?_ _)); exact BK262.out) hb2) (by decide)); have n4_ := aM_ (Ne.symm (J155.ne_blk hi (blk_below (g := gb262) (o := .cells #[.int .i64 0, .string (⟨#[]⟩ : ByteArray)] 73 (0, 0)) (by (with_reducible repeat (first | refine kN_ ?_ _ | refine kD_ ?_ | refine kA_ ?_ _)); exact BK262.out) hb2) (by decide))); clear BK262; clear HB; have BK262 := n0_; have HB := n1_; have HI266 := n2_; have NB266_262 := n3_; have NB262_266 := n4_; clear n0_ n1_ n2_ n3_ n4_; (try clear hb); (try clear hb2); (try clear hk); (try clear hi)) | ((with_reducible refine gate_callee (f := 128) rfl ?_); refine goesL_ (some 8) rfl rfl Try.func128 (by kernel_rfl) rfl #[.pointer (some ⟨g266, 0, none⟩)] rfl (by (try simp only [mA_, mC_, mN_]); first | done | rfl | (simp only [lD_, lT_]; rfl)) ?_; (with_reducible refine (spec_l8Token.calls g266 t263 t264 t265 t267 t268 t269 t270 w _ ?side1 ?side2 A3.out).mono ?_); (case side1 => repeat (first | (with_reducible first | exact HI266.out | apply J155.alloc | apply J155.drewN | apply J155.drew | apply J155.set_1 | apply J155.set_2 | refine J155.far ?_ NB266_262.out _) | exact HI266.out)); (case side2 => repeat (first | (with_reducible first | exact HB.out | apply bA_ | apply bN_ | apply bD_ | refine bE_ ?_ (J155.ge HI266.out) | refine bE_ ?_ GE262.out) | exact HB.out)); rintro e w9 ⟨rfl, hi, hb, hk⟩; refine ⟨_, rfl, ?_⟩; have n0_ := aM_ (KeepBut.blk hk (g' := gb262) (o := .cells #[.int .i64 0, .string (⟨#[]⟩ : ByteArray)] 73 (0, 0)) (by (with_reducible repeat (first | refine kN_ ?_ _ | refine kD_ ?_ | refine kA_ ?_ _)); exact BK262.out) NB262_266.out (by simp)); have n1_ := aM_ (hb); have n2_ := aM_ (hi); clear BK262; clear HB; clear HI266; have BK262 := n0_; have HB := n1_; have HI266 := n2_; clear n0_ n1_ n2_; (try clear hb); (try clear hb2); (try clear hk); (try clear hi)) | ((with_reducible refine gate_dst (N := 4) rfl ?_); refine box_event ?hg (N := 4) ?hd (cs := #[.int .i64 0, .string (⟨#[]⟩ : ByteArray)]) (t := 73) ?hr ?_; (case hd => rfl); (case hg => rfl); (case hr => first | (go_simp; done) | (go_simp; rfl)); intro gb271 hg w10 hbox hb; have n0_ := aM_ (blk_below (g := gb262) (o := .cells #[.int .i64 0, .string (⟨#[]⟩ : ByteArray)] 73 (0, 0)) (by (with_reducible repeat (first | refine kN_ ?_ _ | refine kD_ ?_ | refine kA_ ?_ _)); exact BK262.out) hb); have n1_ := aM_ (J155.below (by repeat (first | (with_reducible first | exact HI266.out | apply J155.alloc | apply J155.drewN | apply J155.drew | apply J155.set_1 | apply J155.set_2 | refine J155.far ?_ NB266_262.out _) | exact HI266.out)) hb); have n2_ := aM_ (bT_ (by repeat (first | (with_reducible first | exact HB.out | apply bA_ | apply bN_ | apply bD_ | refine bE_ ?_ (J155.ge HI266.out) | refine bE_ ?_ GE262.out) | exact HB.out)) hb); have n3_ := aM_ (hbox); have n4_ := aM_ ((by rw [hg]; exact (bS_ (by repeat (first | (with_reducible first | exact HB.out | apply bA_ | apply bN_ | apply bD_ | refine bE_ ?_ (J155.ge HI266.out) | refine bE_ ?_ GE262.out) | exact HB.out))) : w.heap.size ≤ gb271)); have n5_ := aM_ ((by rw [hg]; exact (bS_ (by repeat (first | (with_reducible first | exact HB.out | apply bA_ | apply bN_ | apply bD_ | refine bE_ ?_ (J155.ge HI266.out) | refine bE_ ?_ GE262.out) | exact HB.out))) : w.heap.size ≤ gb271)); have n6_ := aM_ ((by rw [hg]; exact Nat.ne_of_lt (blk_lt (g := gb262) (o := .cells #[.int .i64 0, .string (⟨#[]⟩ : ByteArray)] 73 (0, 0)) (by (with_reducible repeat (first | refine kN_ ?_ _ | refine kD_ ?_ | refine kA_ ?_ _)); exact BK262.out)) : gb262 ≠ gb271)); have n7_ := aM_ ((by rw [hg]; exact Nat.ne_of_gt (blk_lt (g := gb262) (o := .cells #[.int .i64 0, .string (⟨#[]⟩ : ByteArray)] 73 (0, 0)) (by (with_reducible repeat (first | refine kN_ ?_ _ | refine kD_ ?_ | refine kA_ ?_ _)); exact BK262.out)) : gb271 ≠ gb262)); have n8_ := aM_ ((by rw [hg]; exact Nat.ne_of_lt (J155.lt (show J155 w _ g266 t263 t269 t270 from by repeat (first | (with_reducible first | exact HI266.out | apply J155.alloc | apply J155.drewN | apply J155.drew | apply J155.set_1 | apply J155.set_2 | refine J155.far ?_ NB266_262.out _) | exact HI266.out))) : g266 ≠ gb271)); have n9_ := aM_ ((by rw [hg]; exact Nat.ne_of_gt (J155.lt (show J155 w _ g266 t263 t269 t270 from by repeat (first | (with_reducible first | exact HI266.out | apply J155.alloc | apply J155.drewN | apply J155.drew | apply J155.set_1 | apply J155.set_2 | refine J155.far ?_ NB266_262.out _) | exact HI266.out))) : gb271 ≠ g266)); clear BK262; clear HI266; clear HB; have BK262 := n0_; have HI266 := n1_; have HB := n2_; have BK271 := n3_; have GW271 := n4_; have GE271 := n5_; have NB262_271 := n6_; have NB271_262 := n7_; have NB266_271 := n8_; have NB271_266 := n9_; clear n0_ n1_ n2_ n3_ n4_ n5_ n6_ n7_ n8_ n9_; clear hb hbox hg; have hnb11 := NB271_262.out; have hnc11 := NB262_271.out; have hnb12 := NB271_266.out; have hnc12 := NB266_271.out; have hcz13_0 : w10.cell? ⟨gb271, 0, none⟩ = some (.int .i64 0) := (kC_ BK271.out 0).trans rfl; have hcz13_1 : w10.cell? ⟨gb271, 1, none⟩ = some (.string (⟨#[]⟩ : ByteArray)) := (kC_ BK271.out 1).trans rfl; have hfz13_0 := kF_ BK271.out 0; have hfz13_1 := kF_ BK271.out 1) | ((with_reducible refine gate_callee (f := 125) rfl ?_); refine goesL_ (some 10) rfl rfl Try.func125 (by kernel_rfl) rfl #[.pointer (some ⟨g266, 0, none⟩), .int .i64 4] rfl (by (try simp only [mA_, mC_, mN_]); first | done | rfl | (simp only [lD_, lT_]; rfl)) ?_; (with_reducible refine (spec_l1Below.calls g266 t263 t269 t270 4 t272 t273 t274 w _ ?side1 ?side2 A4.out).mono ?_); (case side1 => repeat (first | (with_reducible first | exact HI266.out | apply J155.alloc | apply J155.drewN | apply J155.drew | apply J155.set_1 | apply J155.set_2 | refine J155.far ?_ NB266_262.out _ | refine J155.far ?_ NB266_271.out _) | exact HI266.out)); (case side2 => repeat (first | (with_reducible first | exact HB.out | apply bA_ | apply bN_ | apply bD_ | refine bE_ ?_ (J155.ge HI266.out) | refine bE_ ?_ GE262.out | refine bE_ ?_ GE271.out) | exact HB.out)); rintro e w14 ⟨rfl, hi, hb, hk⟩; refine ⟨_, rfl, ?_⟩; have n0_ := aM_ (KeepBut.blk hk (g' := gb262) (o := .cells #[.int .i64 0, .string (⟨#[]⟩ : ByteArray)] 73 (0, 0)) (by (with_reducible repeat (first | refine kN_ ?_ _ | refine kD_ ?_ | refine kA_ ?_ _)); refine blk_far ?_ NB262_271.out _; (with_reducible repeat (first | refine kN_ ?_ _ | refine kD_ ?_ | refine kA_ ?_ _)); refine blk_far ?_ NB262_271.out _; (with_reducible repeat (first | refine kN_ ?_ _ | refine kD_ ?_ | refine kA_ ?_ _)); exact BK262.out) NB262_266.out (by simp)); have n1_ := aM_ (KeepBut.blk hk (g' := gb271) (o := .cells #[.int .i64 t267, .string t268] 73 (0, 0)) (by (with_reducible repeat (first | refine kN_ ?_ _ | refine kD_ ?_ | refine kA_ ?_ _)); refine kP_ (cs := #[.int .i64 t267, .string (⟨#[]⟩ : ByteArray)]) ?_ 1 _ rfl; (with_reducible repeat (first | refine kN_ ?_ _ | refine kD_ ?_ | refine kA_ ?_ _)); refine kP_ (cs := #[.int .i64 0, .string (⟨#[]⟩ : ByteArray)]) ?_ 0 _ rfl; (with_reducible repeat (first | refine kN_ ?_ _ | refine kD_ ?_ | refine kA_ ?_ _)); exact BK271.out) NB271_266.out (by simp)); have n2_ := aM_ (hb); have n3_ := aM_ (hi); clear BK262; clear BK271; clear HB; clear HI266; have BK262 := n0_; have BK271 := n1_; have HB := n2_; have HI266 := n3_; clear n0_ n1_ n2_ n3_; (try clear hb); (try clear hb2); (try clear hk); (try clear hi)) | ((with_reducible refine gate_callee (f := 125) rfl ?_); refine goesL_ (some 14) rfl rfl Try.func125 (by kernel_rfl) rfl #[.pointer (some ⟨g266, 0, none⟩), .int .i64 4] rfl (by (try simp only [mA_, mC_, mN_]); first | done | rfl | (simp only [lD_, lT_]; rfl)) ?_; (with_reducible refine (spec_l1Below.calls g266 t263 t273 t274 4 t275 t276 t277 w _ ?side1 ?side2 A6.out).mono ?_); (case side1 => repeat (first | (with_reducible first | exact HI266.out | apply J155.alloc | apply J155.drewN | apply J155.drew | apply J155.set_1 | apply J155.set_2 | refine J155.far ?_ NB266_262.out _ | refine J155.far ?_ NB266_271.out _) | exact HI266.out)); (case side2 => repeat (first | (with_reducible first | exact HB.out | apply bA_ | apply bN_ | apply bD_ | refine bE_ ?_ (J155.ge HI266.out) | refine bE_ ?_ GE262.out | refine bE_ ?_ GE271.out) | exact HB.out)); rintro e w15 ⟨rfl, hi, hb, hk⟩; refine ⟨_, rfl, ?_⟩; have n0_ := aM_ (KeepBut.blk hk (g' := gb262) (o := .cells #[.int .i64 0, .string (⟨#[]⟩ : ByteArray)] 73 (0, 0)) (by (with_reducible repeat (first | refine kN_ ?_ _ | refine kD_ ?_ | refine kA_ ?_ _)); exact BK262.out) NB262_266.out (by simp)); have n1_ := aM_ (KeepBut.blk hk (g' := gb271) (o := .cells #[.int .i64 t267, .string t268] 73 (0, 0)) (by (with_reducible repeat (first | refine kN_ ?_ _ | refine kD_ ?_ | refine kA_ ?_ _)); exact BK271.out) NB271_266.out (by simp)); have n2_ := aM_ (hb); have n3_ := aM_ (hi); clear BK262; clear BK271; clear HB; clear HI266; have BK262 := n0_; have BK271 := n1_; have HB := n2_; have HI266 := n3_; clear n0_ n1_ n2_ n3_; (try clear hb); (try clear hb2); (try clear hk); (try clear hi); have hcz16_0 : w15.cell? ⟨gb271, 0, none⟩ = some (.int .i64 t267) := (kC_ BK271.out 0).trans rfl; have hcz16_1 : w15.cell? ⟨gb271, 1, none⟩ = some (.string t268) := (kC_ BK271.out 1).trans rfl; have hfz16_0 := kF_ BK271.out 0; have hfz16_1 := kF_ BK271.out 1; have hnb17 := NB262_266.out; have hnc17 := NB266_262.out; have hcz18_0 : w15.cell? ⟨gb262, 0, none⟩ = some (.int .i64 0) := (kC_ BK262.out 0).trans rfl; have hcz18_1 : w15.cell? ⟨gb262, 1, none⟩ = some (.string (⟨#[]⟩ : ByteArray)) := (kC_ BK262.out 1).trans rfl; have hfz18_0 := kF_ BK262.out 0; have hfz18_1 := kF_ BK262.out 1))
  refine bodyPost_ret (results_cell_row rfl _ _ gb262 73 #[.int .i64 t275, .string t268] (0, 0) _ rfl (by (with_reducible repeat (first | refine kN_ ?_ _ | refine kD_ ?_ | refine kA_ ?_ _)); refine kP_ (cs := #[.int .i64 t275, .string (⟨#[]⟩ : ByteArray)]) ?_ 1 _ rfl; (with_reducible repeat (first | refine kN_ ?_ _ | refine kD_ ?_ | refine kA_ ?_ _)); refine kP_ (cs := #[.int .i64 0, .string (⟨#[]⟩ : ByteArray)]) ?_ 0 _ rfl; (with_reducible repeat (first | refine kN_ ?_ _ | refine kD_ ?_ | refine kA_ ?_ _)); refine blk_far ?_ NB262_271.out _; (with_reducible repeat (first | refine kN_ ?_ _ | refine kD_ ?_ | refine kA_ ?_ _)); exact BK262.out) Try.underlying73 rfl (by kernel_rfl)) rfl ?_
  exact ⟨by first | rfl | (simp [errW_none, errW_some] <;> rfl) | (simp [*, errW_none, errW_some] <;> rfl), by repeat (first | (with_reducible first | exact HB.out | apply bA_ | apply bN_ | apply bD_ | refine bE_ ?_ (J155.ge HI266.out) | refine bE_ ?_ GE262.out | refine bE_ ?_ GE271.out) | exact HB.out)⟩
 ·rw [if_neg c5] at H
  have c5b0 : (t272 == 0) = false := beq_eq_false_iff_ne.mpr c5
  have c5b1 : (t272 != 0) = true := bne_iff_ne.mpr c5
  by_cases c19 : t272 = 1
  ·rw [if_pos c19] at H
   have c19b0 : (t272 == 1) = true := beq_iff_eq.mpr c19
   have c19b1 : (t272 != 1) = false := bne_eq_false_iff_eq.mpr c19
   clear c19
   obtain ⟨y278, hy278⟩ : ∃ y_ : List ByteArray, y_ = (([(⟨#[]⟩ : ByteArray), (⟨#[65]⟩ : ByteArray), (⟨#[49, 97]⟩ : ByteArray), (⟨#[40]⟩ : ByteArray), (⟨#[110, 105, 110, 101, 108, 101, 116, 116, 101]⟩ : ByteArray)] : List ByteArray)) := ⟨_, rfl⟩
   replace H : ((spec_l1Str.f t263 t273 t274 y278).bind fun bt281 => (some (t267, bt281.1))) = some (r1, r2) := by first | (rw [hy278]; with_reducible exact H) | (have H2_ := (Option.bind_some _ _).symm.trans H; rw [hy278]; with_reducible exact H2_) | (have H2_ := (Option.bind_some _ _).symm.trans H; with_reducible exact H2_) | with_reducible exact H | (rw [hy278]; exact H) | exact H
   have Ny278 := aM_ hy278
   clear hy278
   replace H := oB_ H
   obtain ⟨⟨t281, t282, t283⟩, A200, H⟩ := H
   replace H : (some (t267, t281)) = some (r1, r2) := H
   have A20 := aM_ A200
   clear A200
   simp only [Option.some.injEq, Prod.mk.injEq] at H
   obtain ⟨rfl, rfl⟩ := H
   go_enter Try.func58, Try.ntmps58
   go_wp2_with (first | ((with_reducible refine gate_dst (N := 2) rfl ?_); refine box_event ?hg (N := 2) ?hd (cs := #[.int .i64 0, .string (⟨#[]⟩ : ByteArray)]) (t := 73) ?hr ?_; (case hd => rfl); (case hg => rfl); (case hr => first | (go_simp; done) | (go_simp; rfl)); intro gb262 hg w21 hbox hb; have n0_ := aM_ (bT_ (by repeat (first | (with_reducible first | exact HB.out | apply bA_ | apply bN_ | apply bD_) | exact HB.out)) hb); have n1_ := aM_ (hbox); have n2_ := aM_ ((by rw [hg]; exact (bS_ (by repeat (first | (with_reducible first | exact HB.out | apply bA_ | apply bN_ | apply bD_) | exact HB.out))) : w.heap.size ≤ gb262)); have n3_ := aM_ ((by rw [hg]; exact (bS_ (by repeat (first | (with_reducible first | exact HB.out | apply bA_ | apply bN_ | apply bD_) | exact HB.out))) : w.heap.size ≤ gb262)); clear HB; have HB := n0_; have BK262 := n1_; have GW262 := n2_; have GE262 := n3_; clear n0_ n1_ n2_ n3_; clear hb hbox hg) | ((with_reducible refine gate_callee (f := 83) rfl ?_); refine goesL_ (some 6) rfl rfl Try.func83 (by kernel_rfl) rfl #[.slice A0 l0.length c0] rfl (by (try simp only [mA_, mC_, mN_]); first | done | rfl | (simp only [lD_, lT_]; rfl)) ?_; (with_reducible refine (spec_l1New.calls k _ _ l0 t263 t264 t265 w _ ?side1 ?side2 ?side3 A2.out).mono ?_); (case side1 => repeat (first | (with_reducible first | exact HB.out | apply bA_ | apply bN_ | apply bD_ | refine bE_ ?_ GE262.out) | exact HB.out)); (case side2 => exact HR0.out); (case side3 => exact HC0.out); rintro e w22 ⟨g266, rfl, hi, hb, hb2⟩; refine ⟨_, rfl, ?_⟩; have n0_ := aM_ (blk_below (g := gb262) (o := .cells #[.int .i64 0, .string (⟨#[]⟩ : ByteArray)] 73 (0, 0)) (by (with_reducible repeat (first | refine kN_ ?_ _ | refine kD_ ?_ | refine kA_ ?_ _)); exact BK262.out) hb2); have n1_ := aM_ (hb); have n2_ := aM_ (hi); have n3_ := aM_ (J155.ne_blk hi (blk_below (g := gb262) (o := .cells #[.int .i64 0, .string (⟨#[]⟩ : ByteArray)] 73 (0, 0)) (by (with_reducible repeat (first | refine kN_ ?_ _ | refine kD_ ?_ | refine kA_ ?_ _)); exact BK262.out) hb2) (by decide)); have n4_ := aM_ (Ne.symm (J155.ne_blk hi (blk_below (g := gb262) (o := .cells #[.int .i64 0, .string (⟨#[]⟩ : ByteArray)] 73 (0, 0)) (by (with_reducible repeat (first | refine kN_ ?_ _ | refine kD_ ?_ | refine kA_ ?_ _)); exact BK262.out) hb2) (by decide))); clear BK262; clear HB; have BK262 := n0_; have HB := n1_; have HI266 := n2_; have NB266_262 := n3_; have NB262_266 := n4_; clear n0_ n1_ n2_ n3_ n4_; (try clear hb); (try clear hb2); (try clear hk); (try clear hi)) | ((with_reducible refine gate_callee (f := 128) rfl ?_); refine goesL_ (some 8) rfl rfl Try.func128 (by kernel_rfl) rfl #[.pointer (some ⟨g266, 0, none⟩)] rfl (by (try simp only [mA_, mC_, mN_]); first | done | rfl | (simp only [lD_, lT_]; rfl)) ?_; (with_reducible refine (spec_l8Token.calls g266 t263 t264 t265 t267 t268 t269 t270 w _ ?side1 ?side2 A3.out).mono ?_); (case side1 => repeat (first | (with_reducible first | exact HI266.out | apply J155.alloc | apply J155.drewN | apply J155.drew | apply J155.set_1 | apply J155.set_2 | refine J155.far ?_ NB266_262.out _) | exact HI266.out)); (case side2 => repeat (first | (with_reducible first | exact HB.out | apply bA_ | apply bN_ | apply bD_ | refine bE_ ?_ (J155.ge HI266.out) | refine bE_ ?_ GE262.out) | exact HB.out)); rintro e w23 ⟨rfl, hi, hb, hk⟩; refine ⟨_, rfl, ?_⟩; have n0_ := aM_ (KeepBut.blk hk (g' := gb262) (o := .cells #[.int .i64 0, .string (⟨#[]⟩ : ByteArray)] 73 (0, 0)) (by (with_reducible repeat (first | refine kN_ ?_ _ | refine kD_ ?_ | refine kA_ ?_ _)); exact BK262.out) NB262_266.out (by simp)); have n1_ := aM_ (hb); have n2_ := aM_ (hi); clear BK262; clear HB; clear HI266; have BK262 := n0_; have HB := n1_; have HI266 := n2_; clear n0_ n1_ n2_; (try clear hb); (try clear hb2); (try clear hk); (try clear hi)) | ((with_reducible refine gate_dst (N := 4) rfl ?_); refine box_event ?hg (N := 4) ?hd (cs := #[.int .i64 0, .string (⟨#[]⟩ : ByteArray)]) (t := 73) ?hr ?_; (case hd => rfl); (case hg => rfl); (case hr => first | (go_simp; done) | (go_simp; rfl)); intro gb271 hg w24 hbox hb; have n0_ := aM_ (blk_below (g := gb262) (o := .cells #[.int .i64 0, .string (⟨#[]⟩ : ByteArray)] 73 (0, 0)) (by (with_reducible repeat (first | refine kN_ ?_ _ | refine kD_ ?_ | refine kA_ ?_ _)); exact BK262.out) hb); have n1_ := aM_ (J155.below (by repeat (first | (with_reducible first | exact HI266.out | apply J155.alloc | apply J155.drewN | apply J155.drew | apply J155.set_1 | apply J155.set_2 | refine J155.far ?_ NB266_262.out _) | exact HI266.out)) hb); have n2_ := aM_ (bT_ (by repeat (first | (with_reducible first | exact HB.out | apply bA_ | apply bN_ | apply bD_ | refine bE_ ?_ (J155.ge HI266.out) | refine bE_ ?_ GE262.out) | exact HB.out)) hb); have n3_ := aM_ (hbox); have n4_ := aM_ ((by rw [hg]; exact (bS_ (by repeat (first | (with_reducible first | exact HB.out | apply bA_ | apply bN_ | apply bD_ | refine bE_ ?_ (J155.ge HI266.out) | refine bE_ ?_ GE262.out) | exact HB.out))) : w.heap.size ≤ gb271)); have n5_ := aM_ ((by rw [hg]; exact (bS_ (by repeat (first | (with_reducible first | exact HB.out | apply bA_ | apply bN_ | apply bD_ | refine bE_ ?_ (J155.ge HI266.out) | refine bE_ ?_ GE262.out) | exact HB.out))) : w.heap.size ≤ gb271)); have n6_ := aM_ ((by rw [hg]; exact Nat.ne_of_lt (blk_lt (g := gb262) (o := .cells #[.int .i64 0, .string (⟨#[]⟩ : ByteArray)] 73 (0, 0)) (by (with_reducible repeat (first | refine kN_ ?_ _ | refine kD_ ?_ | refine kA_ ?_ _)); exact BK262.out)) : gb262 ≠ gb271)); have n7_ := aM_ ((by rw [hg]; exact Nat.ne_of_gt (blk_lt (g := gb262) (o := .cells #[.int .i64 0, .string (⟨#[]⟩ : ByteArray)] 73 (0, 0)) (by (with_reducible repeat (first | refine kN_ ?_ _ | refine kD_ ?_ | refine kA_ ?_ _)); exact BK262.out)) : gb271 ≠ gb262)); have n8_ := aM_ ((by rw [hg]; exact Nat.ne_of_lt (J155.lt (show J155 w _ g266 t263 t269 t270 from by repeat (first | (with_reducible first | exact HI266.out | apply J155.alloc | apply J155.drewN | apply J155.drew | apply J155.set_1 | apply J155.set_2 | refine J155.far ?_ NB266_262.out _) | exact HI266.out))) : g266 ≠ gb271)); have n9_ := aM_ ((by rw [hg]; exact Nat.ne_of_gt (J155.lt (show J155 w _ g266 t263 t269 t270 from by repeat (first | (with_reducible first | exact HI266.out | apply J155.alloc | apply J155.drewN | apply J155.drew | apply J155.set_1 | apply J155.set_2 | refine J155.far ?_ NB266_262.out _) | exact HI266.out))) : gb271 ≠ g266)); clear BK262; clear HI266; clear HB; have BK262 := n0_; have HI266 := n1_; have HB := n2_; have BK271 := n3_; have GW271 := n4_; have GE271 := n5_; have NB262_271 := n6_; have NB271_262 := n7_; have NB266_271 := n8_; have NB271_266 := n9_; clear n0_ n1_ n2_ n3_ n4_ n5_ n6_ n7_ n8_ n9_; clear hb hbox hg; have hnb25 := NB271_262.out; have hnc25 := NB262_271.out; have hnb26 := NB271_266.out; have hnc26 := NB266_271.out; have hcz27_0 : w24.cell? ⟨gb271, 0, none⟩ = some (.int .i64 0) := (kC_ BK271.out 0).trans rfl; have hcz27_1 : w24.cell? ⟨gb271, 1, none⟩ = some (.string (⟨#[]⟩ : ByteArray)) := (kC_ BK271.out 1).trans rfl; have hfz27_0 := kF_ BK271.out 0; have hfz27_1 := kF_ BK271.out 1) | ((with_reducible refine gate_callee (f := 125) rfl ?_); refine goesL_ (some 10) rfl rfl Try.func125 (by kernel_rfl) rfl #[.pointer (some ⟨g266, 0, none⟩), .int .i64 4] rfl (by (try simp only [mA_, mC_, mN_]); first | done | rfl | (simp only [lD_, lT_]; rfl)) ?_; (with_reducible refine (spec_l1Below.calls g266 t263 t269 t270 4 t272 t273 t274 w _ ?side1 ?side2 A4.out).mono ?_); (case side1 => repeat (first | (with_reducible first | exact HI266.out | apply J155.alloc | apply J155.drewN | apply J155.drew | apply J155.set_1 | apply J155.set_2 | refine J155.far ?_ NB266_262.out _ | refine J155.far ?_ NB266_271.out _) | exact HI266.out)); (case side2 => repeat (first | (with_reducible first | exact HB.out | apply bA_ | apply bN_ | apply bD_ | refine bE_ ?_ (J155.ge HI266.out) | refine bE_ ?_ GE262.out | refine bE_ ?_ GE271.out) | exact HB.out)); rintro e w28 ⟨rfl, hi, hb, hk⟩; refine ⟨_, rfl, ?_⟩; have n0_ := aM_ (KeepBut.blk hk (g' := gb262) (o := .cells #[.int .i64 0, .string (⟨#[]⟩ : ByteArray)] 73 (0, 0)) (by (with_reducible repeat (first | refine kN_ ?_ _ | refine kD_ ?_ | refine kA_ ?_ _)); refine blk_far ?_ NB262_271.out _; (with_reducible repeat (first | refine kN_ ?_ _ | refine kD_ ?_ | refine kA_ ?_ _)); refine blk_far ?_ NB262_271.out _; (with_reducible repeat (first | refine kN_ ?_ _ | refine kD_ ?_ | refine kA_ ?_ _)); exact BK262.out) NB262_266.out (by simp)); have n1_ := aM_ (KeepBut.blk hk (g' := gb271) (o := .cells #[.int .i64 t267, .string t268] 73 (0, 0)) (by (with_reducible repeat (first | refine kN_ ?_ _ | refine kD_ ?_ | refine kA_ ?_ _)); refine kP_ (cs := #[.int .i64 t267, .string (⟨#[]⟩ : ByteArray)]) ?_ 1 _ rfl; (with_reducible repeat (first | refine kN_ ?_ _ | refine kD_ ?_ | refine kA_ ?_ _)); refine kP_ (cs := #[.int .i64 0, .string (⟨#[]⟩ : ByteArray)]) ?_ 0 _ rfl; (with_reducible repeat (first | refine kN_ ?_ _ | refine kD_ ?_ | refine kA_ ?_ _)); exact BK271.out) NB271_266.out (by simp)); have n2_ := aM_ (hb); have n3_ := aM_ (hi); clear BK262; clear BK271; clear HB; clear HI266; have BK262 := n0_; have BK271 := n1_; have HB := n2_; have HI266 := n3_; clear n0_ n1_ n2_ n3_; (try clear hb); (try clear hb2); (try clear hk); (try clear hi)) | ((with_reducible refine gate_dst (N := 19) rfl ?_); refine Kd.R_lit Kd.string _ 9 ?hg (N := 19) ?hd (xs := ([(⟨#[]⟩ : ByteArray), (⟨#[65]⟩ : ByteArray), (⟨#[49, 97]⟩ : ByteArray), (⟨#[40]⟩ : ByteArray), (⟨#[110, 105, 110, 101, 108, 101, 116, 116, 101]⟩ : ByteArray)] : List ByteArray)) (inner := [.string (⟨#[]⟩ : ByteArray), .string (⟨#[65]⟩ : ByteArray), .string (⟨#[49, 97]⟩ : ByteArray), .string (⟨#[40]⟩ : ByteArray), .string (⟨#[110, 105, 110, 101, 108, 101, 116, 116, 101]⟩ : ByteArray)]) (ok := fun _ => True) (okp := fun _ => True) ?hr ?hp (fun _ hk => hk) trivial (Below.refl _ _) (Nat.le_refl _) (by simp) ?_; (case hd => rfl); (case hg => rfl); (case hr => first | (go_simp; done) | (go_simp; rfl)); (case hp => exact (Reps.one (show Kd.M Kd.string _ _ _ (⟨#[]⟩ : ByteArray) [.string (⟨#[]⟩ : ByteArray)] from rfl) (Reps.one (show Kd.M Kd.string _ _ _ (⟨#[65]⟩ : ByteArray) [.string (⟨#[65]⟩ : ByteArray)] from rfl) (Reps.one (show Kd.M Kd.string _ _ _ (⟨#[49, 97]⟩ : ByteArray) [.string (⟨#[49, 97]⟩ : ByteArray)] from rfl) (Reps.one (show Kd.M Kd.string _ _ _ (⟨#[40]⟩ : ByteArray) [.string (⟨#[40]⟩ : ByteArray)] from rfl) (Reps.one (show Kd.M Kd.string _ _ _ (⟨#[110, 105, 110, 101, 108, 101, 116, 116, 101]⟩ : ByteArray) [.string (⟨#[110, 105, 110, 101, 108, 101, 116, 116, 101]⟩ : ByteArray)] from rfl) (Reps.none _ _))))))); intro v279 w29 ho30 hb hg_ hnew_; clear hg_ hnew_; (first | rw [← Ny278.out] at ho30 | (simp only [Int.reduceToNat] at ho30; rw [← Ny278.out] at ho30)); have n0_ := aM_ (Kd.R_lower ho30 (bS_ (by repeat (first | (with_reducible first | exact HB.out | apply bA_ | apply bN_ | apply bD_ | refine bE_ ?_ (J155.ge HI266.out) | refine bE_ ?_ GE262.out | refine bE_ ?_ GE271.out) | exact HB.out)))); have n1_ := aM_ (blk_below (g := gb262) (o := .cells #[.int .i64 0, .string (⟨#[]⟩ : ByteArray)] 73 (0, 0)) (by (with_reducible repeat (first | refine kN_ ?_ _ | refine kD_ ?_ | refine kA_ ?_ _)); exact BK262.out) hb); have n2_ := aM_ (J155.below (by repeat (first | (with_reducible first | exact HI266.out | apply J155.alloc | apply J155.drewN | apply J155.drew | apply J155.set_1 | apply J155.set_2 | refine J155.far ?_ NB266_262.out _ | refine J155.far ?_ NB266_271.out _) | exact HI266.out)) hb); have n3_ := aM_ (blk_below (g := gb271) (o := .cells #[.int .i64 t267, .string t268] 73 (0, 0)) (by (with_reducible repeat (first | refine kN_ ?_ _ | refine kD_ ?_ | refine kA_ ?_ _)); exact BK271.out) hb); have n4_ := aM_ (bT_ (by repeat (first | (with_reducible first | exact HB.out | apply bA_ | apply bN_ | apply bD_ | refine bE_ ?_ (J155.ge HI266.out) | refine bE_ ?_ GE262.out | refine bE_ ?_ GE271.out) | exact HB.out)) hb); clear BK262; clear HI266; clear BK271; clear HB; have HO280 := n0_; have BK262 := n1_; have HI266 := n2_; have BK271 := n3_; have HB := n4_; clear n0_ n1_ n2_ n3_ n4_; clear hb ho30; obtain ⟨Ao31, co31, eo31⟩ := Kd.R_slice HO280.out; subst eo31) | ((with_reducible refine gate_callee (f := 124) rfl ?_); refine goesL_ (some 20) rfl rfl Try.func124 (by kernel_rfl) rfl #[.pointer (some ⟨g266, 0, none⟩), .slice Ao31 y278.length co31] rfl (by (try simp only [mA_, mC_, mN_]); first | done | rfl | (simp only [lD_, lT_]; rfl)) ?_; (with_reducible refine (spec_l1Str.calls g266 t263 t273 t274 _ _ y278 t281 t282 t283 w _ ?side1 ?side2 ?side3 ?side4 ?side5 A20.out).mono ?_); (case side1 => repeat (first | (with_reducible first | exact HI266.out | apply J155.alloc | apply J155.drewN | apply J155.drew | apply J155.set_1 | apply J155.set_2 | refine J155.far ?_ NB266_262.out _ | refine J155.far ?_ NB266_271.out _) | exact HI266.out)); (case side2 => repeat (first | (with_reducible first | exact HB.out | apply bA_ | apply bN_ | apply bD_ | refine bE_ ?_ (J155.ge HI266.out) | refine bE_ ?_ GE262.out | refine bE_ ?_ GE271.out) | exact HB.out)); (case side3 => repeat (first | exact (Kd.R_reads' HO280.out).2.2 | (with_reducible refine cA_ ?_ _) | (with_reducible refine cN_ ?_ _) | (with_reducible refine cD_ ?_))); (case side4 => exact (Kd.R_reads' HO280.out).2.1); (case side5 => exact far_slice (J155.own_ne HI266.out HO280.out (by decide))); rintro e w32 ⟨rfl, hi, hb, hk⟩; refine ⟨_, rfl, ?_⟩; have n0_ := aM_ (KeepBut.blk hk (g' := gb262) (o := .cells #[.int .i64 0, .string (⟨#[]⟩ : ByteArray)] 73 (0, 0)) (by (with_reducible repeat (first | refine kN_ ?_ _ | refine kD_ ?_ | refine kA_ ?_ _)); exact BK262.out) NB262_266.out (by simp)); have n1_ := aM_ (KeepBut.blk hk (g' := gb271) (o := .cells #[.int .i64 t267, .string t268] 73 (0, 0)) (by (with_reducible repeat (first | refine kN_ ?_ _ | refine kD_ ?_ | refine kA_ ?_ _)); exact BK271.out) NB271_266.out (by simp)); have n2_ := aM_ (Kd.R_mono (Kd.R_keep (J155.apart (show J155 w _ g266 t263 t273 t274 from by repeat (first | (with_reducible first | exact HI266.out | apply J155.alloc | apply J155.drewN | apply J155.drew | apply J155.set_1 | apply J155.set_2 | refine J155.far ?_ NB266_262.out _ | refine J155.far ?_ NB266_271.out _) | exact HI266.out)) (by (with_reducible repeat (first | apply rA_ | apply rN_ | apply rD_)); exact HO280.out) (by decide)) hk (fun _ h => h.2)) (fun _ h => h.1)); have n3_ := aM_ (hb); have n4_ := aM_ (hi); clear BK262; clear BK271; clear HO280; clear HB; clear HI266; have BK262 := n0_; have BK271 := n1_; have HO280 := n2_; have HB := n3_; have HI266 := n4_; clear n0_ n1_ n2_ n3_ n4_; (try clear hb); (try clear hb2); (try clear hk); (try clear hi); have hcz33_0 : w32.cell? ⟨gb271, 0, none⟩ = some (.int .i64 t267) := (kC_ BK271.out 0).trans rfl; have hcz33_1 : w32.cell? ⟨gb271, 1, none⟩ = some (.string t268) := (kC_ BK271.out 1).trans rfl; have hfz33_0 := kF_ BK271.out 0; have hfz33_1 := kF_ BK271.out 1; have hnb34 := NB262_266.out; have hnc34 := NB266_262.out; have hcz35_0 : w32.cell? ⟨gb262, 0, none⟩ = some (.int .i64 0) := (kC_ BK262.out 0).trans rfl; have hcz35_1 : w32.cell? ⟨gb262, 1, none⟩ = some (.string (⟨#[]⟩ : ByteArray)) := (kC_ BK262.out 1).trans rfl; have hfz35_0 := kF_ BK262.out 0; have hfz35_1 := kF_ BK262.out 1))
   refine bodyPost_ret (results_cell_row rfl _ _ gb262 73 #[.int .i64 t267, .string t281] (0, 0) _ rfl (by (with_reducible repeat (first | refine kN_ ?_ _ | refine kD_ ?_ | refine kA_ ?_ _)); refine kP_ (cs := #[.int .i64 t267, .string (⟨#[]⟩ : ByteArray)]) ?_ 1 _ rfl; (with_reducible repeat (first | refine kN_ ?_ _ | refine kD_ ?_ | refine kA_ ?_ _)); refine kP_ (cs := #[.int .i64 0, .string (⟨#[]⟩ : ByteArray)]) ?_ 0 _ rfl; (with_reducible repeat (first | refine kN_ ?_ _ | refine kD_ ?_ | refine kA_ ?_ _)); refine blk_far ?_ NB262_271.out _; (with_reducible repeat (first | refine kN_ ?_ _ | refine kD_ ?_ | refine kA_ ?_ _)); exact BK262.out) Try.underlying73 rfl (by kernel_rfl)) rfl ?_
   exact ⟨by first | rfl | (simp [errW_none, errW_some] <;> rfl) | (simp [*, errW_none, errW_some] <;> rfl), by repeat (first | (with_reducible first | exact HB.out | apply bA_ | apply bN_ | apply bD_ | refine bE_ ?_ (J155.ge HI266.out) | refine bE_ ?_ GE262.out | refine bE_ ?_ GE271.out) | exact HB.out)⟩
  ·rw [if_neg c19] at H
   have c19b0 : (t272 == 1) = false := beq_eq_false_iff_ne.mpr c19
   have c19b1 : (t272 != 1) = true := bne_iff_ne.mpr c19
   simp only [Option.some.injEq, Prod.mk.injEq] at H
   obtain ⟨rfl, rfl⟩ := H
   go_enter Try.func58, Try.ntmps58
   go_wp2_with (first | ((with_reducible refine gate_dst (N := 2) rfl ?_); refine box_event ?hg (N := 2) ?hd (cs := #[.int .i64 0, .string (⟨#[]⟩ : ByteArray)]) (t := 73) ?hr ?_; (case hd => rfl); (case hg => rfl); (case hr => first | (go_simp; done) | (go_simp; rfl)); intro gb262 hg w36 hbox hb; have n0_ := aM_ (bT_ (by repeat (first | (with_reducible first | exact HB.out | apply bA_ | apply bN_ | apply bD_) | exact HB.out)) hb); have n1_ := aM_ (hbox); have n2_ := aM_ ((by rw [hg]; exact (bS_ (by repeat (first | (with_reducible first | exact HB.out | apply bA_ | apply bN_ | apply bD_) | exact HB.out))) : w.heap.size ≤ gb262)); have n3_ := aM_ ((by rw [hg]; exact (bS_ (by repeat (first | (with_reducible first | exact HB.out | apply bA_ | apply bN_ | apply bD_) | exact HB.out))) : w.heap.size ≤ gb262)); clear HB; have HB := n0_; have BK262 := n1_; have GW262 := n2_; have GE262 := n3_; clear n0_ n1_ n2_ n3_; clear hb hbox hg) | ((with_reducible refine gate_callee (f := 83) rfl ?_); refine goesL_ (some 6) rfl rfl Try.func83 (by kernel_rfl) rfl #[.slice A0 l0.length c0] rfl (by (try simp only [mA_, mC_, mN_]); first | done | rfl | (simp only [lD_, lT_]; rfl)) ?_; (with_reducible refine (spec_l1New.calls k _ _ l0 t263 t264 t265 w _ ?side1 ?side2 ?side3 A2.out).mono ?_); (case side1 => repeat (first | (with_reducible first | exact HB.out | apply bA_ | apply bN_ | apply bD_ | refine bE_ ?_ GE262.out) | exact HB.out)); (case side2 => exact HR0.out); (case side3 => exact HC0.out); rintro e w37 ⟨g266, rfl, hi, hb, hb2⟩; refine ⟨_, rfl, ?_⟩; have n0_ := aM_ (blk_below (g := gb262) (o := .cells #[.int .i64 0, .string (⟨#[]⟩ : ByteArray)] 73 (0, 0)) (by (with_reducible repeat (first | refine kN_ ?_ _ | refine kD_ ?_ | refine kA_ ?_ _)); exact BK262.out) hb2); have n1_ := aM_ (hb); have n2_ := aM_ (hi); have n3_ := aM_ (J155.ne_blk hi (blk_below (g := gb262) (o := .cells #[.int .i64 0, .string (⟨#[]⟩ : ByteArray)] 73 (0, 0)) (by (with_reducible repeat (first | refine kN_ ?_ _ | refine kD_ ?_ | refine kA_ ?_ _)); exact BK262.out) hb2) (by decide)); have n4_ := aM_ (Ne.symm (J155.ne_blk hi (blk_below (g := gb262) (o := .cells #[.int .i64 0, .string (⟨#[]⟩ : ByteArray)] 73 (0, 0)) (by (with_reducible repeat (first | refine kN_ ?_ _ | refine kD_ ?_ | refine kA_ ?_ _)); exact BK262.out) hb2) (by decide))); clear BK262; clear HB; have BK262 := n0_; have HB := n1_; have HI266 := n2_; have NB266_262 := n3_; have NB262_266 := n4_; clear n0_ n1_ n2_ n3_ n4_; (try clear hb); (try clear hb2); (try clear hk); (try clear hi)) | ((with_reducible refine gate_callee (f := 128) rfl ?_); refine goesL_ (some 8) rfl rfl Try.func128 (by kernel_rfl) rfl #[.pointer (some ⟨g266, 0, none⟩)] rfl (by (try simp only [mA_, mC_, mN_]); first | done | rfl | (simp only [lD_, lT_]; rfl)) ?_; (with_reducible refine (spec_l8Token.calls g266 t263 t264 t265 t267 t268 t269 t270 w _ ?side1 ?side2 A3.out).mono ?_); (case side1 => repeat (first | (with_reducible first | exact HI266.out | apply J155.alloc | apply J155.drewN | apply J155.drew | apply J155.set_1 | apply J155.set_2 | refine J155.far ?_ NB266_262.out _) | exact HI266.out)); (case side2 => repeat (first | (with_reducible first | exact HB.out | apply bA_ | apply bN_ | apply bD_ | refine bE_ ?_ (J155.ge HI266.out) | refine bE_ ?_ GE262.out) | exact HB.out)); rintro e w38 ⟨rfl, hi, hb, hk⟩; refine ⟨_, rfl, ?_⟩; have n0_ := aM_ (KeepBut.blk hk (g' := gb262) (o := .cells #[.int .i64 0, .string (⟨#[]⟩ : ByteArray)] 73 (0, 0)) (by (with_reducible repeat (first | refine kN_ ?_ _ | refine kD_ ?_ | refine kA_ ?_ _)); exact BK262.out) NB262_266.out (by simp)); have n1_ := aM_ (hb); have n2_ := aM_ (hi); clear BK262; clear HB; clear HI266; have BK262 := n0_; have HB := n1_; have HI266 := n2_; clear n0_ n1_ n2_; (try clear hb); (try clear hb2); (try clear hk); (try clear hi)) | ((with_reducible refine gate_dst (N := 4) rfl ?_); refine box_event ?hg (N := 4) ?hd (cs := #[.int .i64 0, .string (⟨#[]⟩ : ByteArray)]) (t := 73) ?hr ?_; (case hd => rfl); (case hg => rfl); (case hr => first | (go_simp; done) | (go_simp; rfl)); intro gb271 hg w39 hbox hb; have n0_ := aM_ (blk_below (g := gb262) (o := .cells #[.int .i64 0, .string (⟨#[]⟩ : ByteArray)] 73 (0, 0)) (by (with_reducible repeat (first | refine kN_ ?_ _ | refine kD_ ?_ | refine kA_ ?_ _)); exact BK262.out) hb); have n1_ := aM_ (J155.below (by repeat (first | (with_reducible first | exact HI266.out | apply J155.alloc | apply J155.drewN | apply J155.drew | apply J155.set_1 | apply J155.set_2 | refine J155.far ?_ NB266_262.out _) | exact HI266.out)) hb); have n2_ := aM_ (bT_ (by repeat (first | (with_reducible first | exact HB.out | apply bA_ | apply bN_ | apply bD_ | refine bE_ ?_ (J155.ge HI266.out) | refine bE_ ?_ GE262.out) | exact HB.out)) hb); have n3_ := aM_ (hbox); have n4_ := aM_ ((by rw [hg]; exact (bS_ (by repeat (first | (with_reducible first | exact HB.out | apply bA_ | apply bN_ | apply bD_ | refine bE_ ?_ (J155.ge HI266.out) | refine bE_ ?_ GE262.out) | exact HB.out))) : w.heap.size ≤ gb271)); have n5_ := aM_ ((by rw [hg]; exact (bS_ (by repeat (first | (with_reducible first | exact HB.out | apply bA_ | apply bN_ | apply bD_ | refine bE_ ?_ (J155.ge HI266.out) | refine bE_ ?_ GE262.out) | exact HB.out))) : w.heap.size ≤ gb271)); have n6_ := aM_ ((by rw [hg]; exact Nat.ne_of_lt (blk_lt (g := gb262) (o := .cells #[.int .i64 0, .string (⟨#[]⟩ : ByteArray)] 73 (0, 0)) (by (with_reducible repeat (first | refine kN_ ?_ _ | refine kD_ ?_ | refine kA_ ?_ _)); exact BK262.out)) : gb262 ≠ gb271)); have n7_ := aM_ ((by rw [hg]; exact Nat.ne_of_gt (blk_lt (g := gb262) (o := .cells #[.int .i64 0, .string (⟨#[]⟩ : ByteArray)] 73 (0, 0)) (by (with_reducible repeat (first | refine kN_ ?_ _ | refine kD_ ?_ | refine kA_ ?_ _)); exact BK262.out)) : gb271 ≠ gb262)); have n8_ := aM_ ((by rw [hg]; exact Nat.ne_of_lt (J155.lt (show J155 w _ g266 t263 t269 t270 from by repeat (first | (with_reducible first | exact HI266.out | apply J155.alloc | apply J155.drewN | apply J155.drew | apply J155.set_1 | apply J155.set_2 | refine J155.far ?_ NB266_262.out _) | exact HI266.out))) : g266 ≠ gb271)); have n9_ := aM_ ((by rw [hg]; exact Nat.ne_of_gt (J155.lt (show J155 w _ g266 t263 t269 t270 from by repeat (first | (with_reducible first | exact HI266.out | apply J155.alloc | apply J155.drewN | apply J155.drew | apply J155.set_1 | apply J155.set_2 | refine J155.far ?_ NB266_262.out _) | exact HI266.out))) : gb271 ≠ g266)); clear BK262; clear HI266; clear HB; have BK262 := n0_; have HI266 := n1_; have HB := n2_; have BK271 := n3_; have GW271 := n4_; have GE271 := n5_; have NB262_271 := n6_; have NB271_262 := n7_; have NB266_271 := n8_; have NB271_266 := n9_; clear n0_ n1_ n2_ n3_ n4_ n5_ n6_ n7_ n8_ n9_; clear hb hbox hg; have hnb40 := NB271_262.out; have hnc40 := NB262_271.out; have hnb41 := NB271_266.out; have hnc41 := NB266_271.out; have hcz42_0 : w39.cell? ⟨gb271, 0, none⟩ = some (.int .i64 0) := (kC_ BK271.out 0).trans rfl; have hcz42_1 : w39.cell? ⟨gb271, 1, none⟩ = some (.string (⟨#[]⟩ : ByteArray)) := (kC_ BK271.out 1).trans rfl; have hfz42_0 := kF_ BK271.out 0; have hfz42_1 := kF_ BK271.out 1) | ((with_reducible refine gate_callee (f := 125) rfl ?_); refine goesL_ (some 10) rfl rfl Try.func125 (by kernel_rfl) rfl #[.pointer (some ⟨g266, 0, none⟩), .int .i64 4] rfl (by (try simp only [mA_, mC_, mN_]); first | done | rfl | (simp only [lD_, lT_]; rfl)) ?_; (with_reducible refine (spec_l1Below.calls g266 t263 t269 t270 4 t272 t273 t274 w _ ?side1 ?side2 A4.out).mono ?_); (case side1 => repeat (first | (with_reducible first | exact HI266.out | apply J155.alloc | apply J155.drewN | apply J155.drew | apply J155.set_1 | apply J155.set_2 | refine J155.far ?_ NB266_262.out _ | refine J155.far ?_ NB266_271.out _) | exact HI266.out)); (case side2 => repeat (first | (with_reducible first | exact HB.out | apply bA_ | apply bN_ | apply bD_ | refine bE_ ?_ (J155.ge HI266.out) | refine bE_ ?_ GE262.out | refine bE_ ?_ GE271.out) | exact HB.out)); rintro e w43 ⟨rfl, hi, hb, hk⟩; refine ⟨_, rfl, ?_⟩; have n0_ := aM_ (KeepBut.blk hk (g' := gb262) (o := .cells #[.int .i64 0, .string (⟨#[]⟩ : ByteArray)] 73 (0, 0)) (by (with_reducible repeat (first | refine kN_ ?_ _ | refine kD_ ?_ | refine kA_ ?_ _)); refine blk_far ?_ NB262_271.out _; (with_reducible repeat (first | refine kN_ ?_ _ | refine kD_ ?_ | refine kA_ ?_ _)); refine blk_far ?_ NB262_271.out _; (with_reducible repeat (first | refine kN_ ?_ _ | refine kD_ ?_ | refine kA_ ?_ _)); exact BK262.out) NB262_266.out (by simp)); have n1_ := aM_ (KeepBut.blk hk (g' := gb271) (o := .cells #[.int .i64 t267, .string t268] 73 (0, 0)) (by (with_reducible repeat (first | refine kN_ ?_ _ | refine kD_ ?_ | refine kA_ ?_ _)); refine kP_ (cs := #[.int .i64 t267, .string (⟨#[]⟩ : ByteArray)]) ?_ 1 _ rfl; (with_reducible repeat (first | refine kN_ ?_ _ | refine kD_ ?_ | refine kA_ ?_ _)); refine kP_ (cs := #[.int .i64 0, .string (⟨#[]⟩ : ByteArray)]) ?_ 0 _ rfl; (with_reducible repeat (first | refine kN_ ?_ _ | refine kD_ ?_ | refine kA_ ?_ _)); exact BK271.out) NB271_266.out (by simp)); have n2_ := aM_ (hb); have n3_ := aM_ (hi); clear BK262; clear BK271; clear HB; clear HI266; have BK262 := n0_; have BK271 := n1_; have HB := n2_; have HI266 := n3_; clear n0_ n1_ n2_ n3_; (try clear hb); (try clear hb2); (try clear hk); (try clear hi); have hcz44_0 : w43.cell? ⟨gb271, 0, none⟩ = some (.int .i64 t267) := (kC_ BK271.out 0).trans rfl; have hcz44_1 : w43.cell? ⟨gb271, 1, none⟩ = some (.string t268) := (kC_ BK271.out 1).trans rfl; have hfz44_0 := kF_ BK271.out 0; have hfz44_1 := kF_ BK271.out 1; have hnb45 := NB262_266.out; have hnc45 := NB266_262.out; have hcz46_0 : w43.cell? ⟨gb262, 0, none⟩ = some (.int .i64 0) := (kC_ BK262.out 0).trans rfl; have hcz46_1 : w43.cell? ⟨gb262, 1, none⟩ = some (.string (⟨#[]⟩ : ByteArray)) := (kC_ BK262.out 1).trans rfl; have hfz46_0 := kF_ BK262.out 0; have hfz46_1 := kF_ BK262.out 1))
   refine bodyPost_ret (results_cell_row rfl _ _ gb262 73 #[.int .i64 t267, .string t268] (0, 0) _ rfl (by (with_reducible repeat (first | refine kN_ ?_ _ | refine kD_ ?_ | refine kA_ ?_ _)); refine kP_ (cs := #[.int .i64 t267, .string (⟨#[]⟩ : ByteArray)]) ?_ 1 _ rfl; (with_reducible repeat (first | refine kN_ ?_ _ | refine kD_ ?_ | refine kA_ ?_ _)); refine kP_ (cs := #[.int .i64 0, .string (⟨#[]⟩ : ByteArray)]) ?_ 0 _ rfl; (with_reducible repeat (first | refine kN_ ?_ _ | refine kD_ ?_ | refine kA_ ?_ _)); exact BK262.out) Try.underlying73 rfl (by kernel_rfl)) rfl ?_
   exact ⟨by first | rfl | (simp [errW_none, errW_some] <;> rfl) | (simp [*, errW_none, errW_some] <;> rfl), by repeat (first | (with_reducible first | exact HB.out | apply bA_ | apply bN_ | apply bD_ | refine bE_ ?_ (J155.ge HI266.out) | refine bE_ ?_ GE262.out | refine bE_ ?_ GE271.out) | exact HB.out)⟩

end Go.Proofs.Ytllgmgpfdnofmaa.PFnLexed
