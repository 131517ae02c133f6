-- Written by a program of this session, which builds on the kit's print
import Derived.Test.YticedidmodmdnaaZDKPFnExactDiskOkx0
import Derived.Test.YticedidmodmdnaaZDKPFnExactDiskOkx4
namespace Go.Proofs.Yticedidmodmdnaa.PFnExactDiskOk
open Go.RowKit Go.Proofs.YticedidmodmdnaaW.PrintWords Go.Proofs.YticedidmodmdnaaW.PrintLast Go.Proofs.YticedidmodmdnaaW.PrintMore Go.Proofs.Yticedidmodmdnaa.Xtra
attribute [local go_sem] max2_int min2_int max_two min_two max_three min_three max_four min_four str_leq str_gtr str_geq setCell_drewN cell_set2 cell_set3   -- for this text's walks alone
set_option linter.unusedVariables false
set_option linter.unusedSimpArgs false

/-! ### impl_DiskOk: function 17 -/
mutual
def impl_DiskOk.j0 : Nat → Bool → List (List Int) → List (S58) → Int → List (S78) → Bool → Option (Bool)
 | 0, _, _, _, _, _, _ => none
 | k + 1, x41, x179000, x179001, x179002, x179003, x179004 => if x41 = true then (some false) else (impl_DiskOk.l0 k x179000 (x179000.length : Int) 0 x179000 x179001 x179002 x179003 x179004)
def impl_DiskOk.l0 : Nat → List (List Int) → Int → Int → List (List Int) → List (S58) → Int → List (S78) → Bool → Option (Bool)
 | 0, _, _, _, _, _, _, _, _ => none
 | k + 1, x43, x44, x45, x179000, x179001, x179002, x179003, x179004 => if x45 < x44 then (if 0 ≤ x45 then (if x45 < (x43.length : Int) then (if ((rd_L3 x43 x45).length : Int) > 256 then (some false) else (impl_DiskOk.l0 k x43 x44 (wrap64 (x45 + 1)) x179000 x179001 x179002 x179003 x179004)) else (none)) else (none)) else (impl_DiskOk.l1 k x179001 (x179001.length : Int) 0 x179000 x179001 x179002 x179003 x179004)
def impl_DiskOk.l1 : Nat → List (S58) → Int → Int → List (List Int) → List (S58) → Int → List (S78) → Bool → Option (Bool)
 | 0, _, _, _, _, _, _, _, _ => none
 | k + 1, x54, x55, x56, x179000, x179001, x179002, x179003, x179004 => if x56 < x55 then (if 0 ≤ x56 then (if x56 < (x54.length : Int) then ((impl_in.f ((rd_T58 x54 x56).f0) 0 (wrap64 ((x179000.length : Int) - 1))).bind fun t184 => (if t184 = true then (if (((rd_T58 x54 x56).f1).length : Int) > 256 then (some false) else (impl_DiskOk.l1 k x54 x55 (wrap64 (x56 + 1)) x179000 x179001 x179002 x179003 x179004)) else (some false))) else (none)) else (none)) else (impl_DiskOk.l2 k x179003 (x179003.length : Int) 0 x179000 x179001 x179002 x179003 x179004)
def impl_DiskOk.l2 : Nat → List (S78) → Int → Int → List (List Int) → List (S58) → Int → List (S78) → Bool → Option (Bool)
 | 0, _, _, _, _, _, _, _, _ => none
 | k + 1, x76, x77, x78, x179000, x179001, x179002, x179003, x179004 => if x78 < x77 then (if 0 ≤ x78 then (if x78 < (x76.length : Int) then ((impl_in.f ((rd_T78 x76 x78).f0) 0 100000).bind fun t187 => (if t187 = true then ((impl_in.f ((rd_T78 x76 x78).f1) 0 1048575).bind fun t188 => (if t188 = true then ((impl_in.f ((rd_T78 x76 x78).f2) 0 256).bind fun t189 => (if t189 = true then (if x78 > 0 then (if 0 ≤ (wrap64 (x78 - 1)) then (if (wrap64 (x78 - 1)) < (x179003.length : Int) then (if ((rd_T78 x179003 (wrap64 (x78 - 1))).f0) ≥ ((rd_T78 x76 x78).f0) then (some false) else (impl_DiskOk.l2 k x76 x77 (wrap64 (x78 + 1)) x179000 x179001 x179002 x179003 x179004)) else (none)) else (none)) else (impl_DiskOk.l2 k x76 x77 (wrap64 (x78 + 1)) x179000 x179001 x179002 x179003 x179004)) else (some false))) else (some false))) else (some false))) else (none)) else (none)) else (some true)
end
def impl_DiskOk.f (k : Nat) (l0_0 : List (List Int)) (l0_1 : List (S58)) (a0_2 : Int) (l0_3 : List (S78)) (a0_4 : Bool) : Option (Bool) := (impl_in.f (l0_0.length : Int) 4 48).bind fun t179 => (if t179 = true then (if (l0_1.length : Int) > 60 then (impl_DiskOk.j0 k true l0_0 l0_1 a0_2 l0_3 a0_4) else ((impl_in.f a0_2 0 100000).bind fun t180 => (if t180 = true then (if (l0_3.length : Int) > 20 then (impl_DiskOk.j0 k true l0_0 l0_1 a0_2 l0_3 a0_4) else (if a0_4 = true then (impl_DiskOk.j0 k (decide ((l0_1.length : Int) > 0)) l0_0 l0_1 a0_2 l0_3 a0_4) else (impl_DiskOk.j0 k false l0_0 l0_1 a0_2 l0_3 a0_4))) else (impl_DiskOk.j0 k true l0_0 l0_1 a0_2 l0_3 a0_4)))) else (impl_DiskOk.j0 k true l0_0 l0_1 a0_2 l0_3 a0_4))
theorem impl_DiskOk.mono_l : ∀ k, (∀ y0 y1 y2 y3 y4 y5, LeO (impl_DiskOk.j0 k y0 y1 y2 y3 y4 y5) (impl_DiskOk.j0 (k + 1) y0 y1 y2 y3 y4 y5)) ∧ (∀ y0 y1 y2 y3 y4 y5 y6 y7, LeO (impl_DiskOk.l0 k y0 y1 y2 y3 y4 y5 y6 y7) (impl_DiskOk.l0 (k + 1) y0 y1 y2 y3 y4 y5 y6 y7)) ∧ (∀ y0 y1 y2 y3 y4 y5 y6 y7, LeO (impl_DiskOk.l1 k y0 y1 y2 y3 y4 y5 y6 y7) (impl_DiskOk.l1 (k + 1) y0 y1 y2 y3 y4 y5 y6 y7)) ∧ (∀ y0 y1 y2 y3 y4 y5 y6 y7, LeO (impl_DiskOk.l2 k y0 y1 y2 y3 y4 y5 y6 y7) (impl_DiskOk.l2 (k + 1) y0 y1 y2 y3 y4 y5 y6 y7))
 | 0 => ⟨fun _ _ _ _ _ _ r h => by simp [impl_DiskOk.j0] at h, fun _ _ _ _ _ _ _ _ r h => by simp [impl_DiskOk.l0] at h, fun _ _ _ _ _ _ _ _ r h => by simp [impl_DiskOk.l1] at h, fun _ _ _ _ _ _ _ _ r h => by simp [impl_DiskOk.l2] at h⟩
 | k + 1 => by
  obtain ⟨ih0, ih1, ih2, ih3⟩ := impl_DiskOk.mono_l k
  refine ⟨?_, ?_, ?_, ?_⟩
  ·intro y0 y1 y2 y3 y4 y5
   unfold impl_DiskOk.j0
   repeat' first
   | (with_reducible exact ih0 _ _ _ _ _ _)
   | (with_reducible exact ih1 _ _ _ _ _ _ _ _)
   | (with_reducible exact ih2 _ _ _ _ _ _ _ _)
   | (with_reducible exact ih3 _ _ _ _ _ _ _ _)
   | (with_reducible exact LeO.refl _)
   | (with_reducible exact LeO.none _)
   | (with_reducible refine LeO.ite ?_ ?_)
   | (with_reducible refine LeO.bind ?_ (fun _ => ?_))
   | exact ih0 _ _ _ _ _ _
   | exact ih1 _ _ _ _ _ _ _ _
   | exact ih2 _ _ _ _ _ _ _ _
   | exact ih3 _ _ _ _ _ _ _ _
   | exact LeO.none _
   | refine LeO.ite ?_ ?_
   | refine LeO.bind ?_ (fun _ => ?_)
  ·intro y0 y1 y2 y3 y4 y5 y6 y7
   unfold impl_DiskOk.l0
   repeat' first
   | (with_reducible exact ih0 _ _ _ _ _ _)
   | (with_reducible exact ih1 _ _ _ _ _ _ _ _)
   | (with_reducible exact ih2 _ _ _ _ _ _ _ _)
   | (with_reducible exact ih3 _ _ _ _ _ _ _ _)
   | (with_reducible exact LeO.refl _)
   | (with_reducible exact LeO.none _)
   | (with_reducible refine LeO.ite ?_ ?_)
   | (with_reducible refine LeO.bind ?_ (fun _ => ?_))
   | exact ih0 _ _ _ _ _ _
   | exact ih1 _ _ _ _ _ _ _ _
   | exact ih2 _ _ _ _ _ _ _ _
   | exact ih3 _ _ _ _ _ _ _ _
   | exact LeO.none _
   | refine LeO.ite ?_ ?_
   | refine LeO.bind ?_ (fun _ => ?_)
  ·intro y0 y1 y2 y3 y4 y5 y6 y7
   unfold impl_DiskOk.l1
   repeat' first
   | (with_reducible exact ih0 _ _ _ _ _ _)
   | (with_reducible exact ih1 _ _ _ _ _ _ _ _)
   | (with_reducible exact ih2 _ _ _ _ _ _ _ _)
   | (with_reducible exact ih3 _ _ _ _ _ _ _ _)
   | (with_reducible exact LeO.refl _)
   | (with_reducible exact LeO.none _)
   | (with_reducible refine LeO.ite ?_ ?_)
   | (with_reducible refine LeO.bind ?_ (fun _ => ?_))
   | exact ih0 _ _ _ _ _ _
   | exact ih1 _ _ _ _ _ _ _ _
   | exact ih2 _ _ _ _ _ _ _ _
   | exact ih3 _ _ _ _ _ _ _ _
   | exact LeO.none _
   | refine LeO.ite ?_ ?_
   | refine LeO.bind ?_ (fun _ => ?_)
  ·intro y0 y1 y2 y3 y4 y5 y6 y7
   unfold impl_DiskOk.l2
   repeat' first
   | (with_reducible exact ih0 _ _ _ _ _ _)
   | (with_reducible exact ih1 _ _ _ _ _ _ _ _)
   | (with_reducible exact ih2 _ _ _ _ _ _ _ _)
   | (with_reducible exact ih3 _ _ _ _ _ _ _ _)
   | (with_reducible exact LeO.refl _)
   | (with_reducible exact LeO.none _)
   | (with_reducible refine LeO.ite ?_ ?_)
   | (with_reducible refine LeO.bind ?_ (fun _ => ?_))
   | exact ih0 _ _ _ _ _ _
   | exact ih1 _ _ _ _ _ _ _ _
   | exact ih2 _ _ _ _ _ _ _ _
   | exact ih3 _ _ _ _ _ _ _ _
   | exact LeO.none _
   | refine LeO.ite ?_ ?_
   | refine LeO.bind ?_ (fun _ => ?_)
theorem impl_DiskOk.mono : ∀ a0 a1 a2 a3 a4 k, LeO (impl_DiskOk.f k a0 a1 a2 a3 a4) (impl_DiskOk.f (k + 1) a0 a1 a2 a3 a4) := by
 intro a0 a1 a2 a3 a4 k
 obtain ⟨ih0, ih1, ih2, ih3⟩ := impl_DiskOk.mono_l k
 unfold impl_DiskOk.f
 repeat' first
   | (with_reducible exact ih0 _ _ _ _ _ _)
   | (with_reducible exact ih1 _ _ _ _ _ _ _ _)
   | (with_reducible exact ih2 _ _ _ _ _ _ _ _)
   | (with_reducible exact ih3 _ _ _ _ _ _ _ _)
   | (with_reducible exact LeO.refl _)
   | (with_reducible exact LeO.none _)
   | (with_reducible refine LeO.ite ?_ ?_)
   | (with_reducible refine LeO.bind ?_ (fun _ => ?_))
   | exact ih0 _ _ _ _ _ _
   | exact ih1 _ _ _ _ _ _ _ _
   | exact ih2 _ _ _ _ _ _ _ _
   | exact ih3 _ _ _ _ _ _ _ _
   | exact LeO.none _
   | refine LeO.ite ?_ ?_
   | refine LeO.bind ?_ (fun _ => ?_)
def impl_DiskOk.T18 : Bool × List (List Nat × List Nat) := (true, [([], []), ([0], [0]), ([1], [1]), ([2], [2]), ([3, 2], [3]), ([4], [4]), ([5, 4], [4, 5]), ([6, 4, 4], [4, 6]), ([7, 4], [4, 7]), ([4, 8], [4, 8]), ([9, 7], [9]), ([10], [10]), ([11, 10], [10, 11]), ([12, 10, 10], [10, 12]), ([13, 10], [10, 13]), ([10, 14], [10, 14]), ([15, 13], [15]), ([16], [16]), ([17, 16], [16, 17]), ([18, 16, 16], [16, 18]), ([19], [19]), ([20, 19], [19, 20]), ([19], [19]), ([22, 19], [19, 22]), ([21, 23, 19], [19, 21, 23]), ([24, 19], [19, 24]), ([25, 19], [19, 25]), ([19], [19]), ([27, 19], [19, 27]), ([26, 28, 19], [19, 26, 28]), ([19, 29, 16], [16, 19, 29]), ([16, 30], [16, 30])])
def impl_DiskOk.B18 : List Nat := [0, 1, 3, 7, 15, 31, 63, 127, 255, 511, 1023, 2047, 4095, 8191, 16383, 32767, 65535, 131071, 262143, 524287, 1048575, 2097151, 1048575, 5242879, 16777215, 33554431, 67108863, 1048575, 135266303, 536870911, 1073741823, 2147483647]
theorem impl_DiskOk.tab18 : rtab .any (opsOf Try.f17 18) = impl_DiskOk.T18 := by kernel_rfl
theorem impl_DiskOk.bits18 : waitsOk impl_DiskOk.T18.2 impl_DiskOk.B18 = true := by kernel_rfl
set_option maxHeartbeats 8000000 in
set_option maxRecDepth 100000 in
theorem impl_DiskOk.calls (k : Nat) (A0_0 : Option Addr) (c0_0 : Nat) (l0_0 : List (List Int)) (A0_1 : Option Addr) (c0_1 : Nat) (l0_1 : List (S58)) (a0_2 : Int) (A0_3 : Option Addr) (c0_3 : Nat) (l0_3 : List (S78)) (a0_4 : Bool) (r : Bool) (w : World) (hr0_0 : Kd.C (Kd.slice 5 (Kd.int .u8)) w A0_0 l0_0.length l0_0) (hc0_0 : l0_0.length ≤ c0_0) (hr0_1 : Kd.C k58 w A0_1 l0_1.length l0_1) (hc0_1 : l0_1.length ≤ c0_1) (hr0_3 : Kd.C k78 w A0_3 l0_3.length l0_3) (hc0_3 : l0_3.length ≤ c0_3) (h : impl_DiskOk.f k l0_0 l0_1 a0_2 l0_3 a0_4 = some r) :
  Calls Try.prog 17 #[.agg #[.slice A0_0 l0_0.length c0_0, .slice A0_1 l0_1.length c0_1, .int .i64 a0_2, .slice A0_3 l0_3.length c0_3, .bool a0_4]] w fun e w' => e = .returned (.bool r) ∧ Below w.heap.size w w' := by
 have hu32 := Try.underlying32
 have hu58 := Try.underlying58
 have hu78 := Try.underlying78
 have HR0_0 := aM_ hr0_0
 have HC0_0 := aM_ hc0_0
 clear hr0_0 hc0_0
 have HR0_1 := aM_ hr0_1
 have HC0_1 := aM_ hc0_1
 clear hr0_1 hc0_1
 have HR0_3 := aM_ hr0_3
 have HC0_3 := aM_ hc0_3
 clear hr0_3 hc0_3
 have HB := aM_ (Below.refl w.heap.size w)
 have H : ((impl_in.f (l0_0.length : Int) 4 48).bind fun t179 => (if t179 = true then (if (l0_1.length : Int) > 60 then (impl_DiskOk.j0 k true l0_0 l0_1 a0_2 l0_3 a0_4) else ((impl_in.f a0_2 0 100000).bind fun t180 => (if t180 = true then (if (l0_3.length : Int) > 20 then (impl_DiskOk.j0 k true l0_0 l0_1 a0_2 l0_3 a0_4) else (if a0_4 = true then (impl_DiskOk.j0 k (decide ((l0_1.length : Int) > 0)) l0_0 l0_1 a0_2 l0_3 a0_4) else (impl_DiskOk.j0 k false l0_0 l0_1 a0_2 l0_3 a0_4))) else (impl_DiskOk.j0 k true l0_0 l0_1 a0_2 l0_3 a0_4)))) else (impl_DiskOk.j0 k true l0_0 l0_1 a0_2 l0_3 a0_4))) = some r := h
 clear h
 have HC2 := aM_ H
 clear H
 go_enter Try.func17, Try.ntmps17
 go_upto_region 1 with (first | ((with_reducible refine gate_dst (N := 1) rfl ?_); (try (refine gate_guard (by rfl) ?_; dsimp only)); refine box_event ?hg (N := 1) ?hd (cs := #[.slice A0_0 l0_0.length c0_0, .slice A0_1 l0_1.length c0_1, .int .i64 a0_2, .slice A0_3 l0_3.length c0_3, .bool a0_4]) (t := 32) ?hr ?_; (case hd => rfl); (case hg => rfl); (case hr => first | (go_simp; done) | (go_simp; rfl)); intro gb178 hg w3 hbox hb; have n0_ := aM_ (bT_ (by repeat (first | (with_reducible first | exact HB.out | apply bA_ | apply bN_ | apply bD_) | exact HB.out)) hb); have n1_ := aM_ (hbox); have n2_ := aM_ ((by rw [hg]; exact (bS_ (by repeat (first | (with_reducible first | exact HB.out | apply bA_ | apply bN_ | apply bD_) | exact HB.out))) : w.heap.size ≤ gb178)); have n3_ := aM_ ((by rw [hg]; exact (bS_ (by repeat (first | (with_reducible first | exact HB.out | apply bA_ | apply bN_ | apply bD_) | exact HB.out))) : w.heap.size ≤ gb178)); clear HB; have HB := n0_; have BK178 := n1_; have GW178 := n2_; have GE178 := n3_; clear n0_ n1_ n2_ n3_; clear hb hbox hg))
 (try simp only [Act.put, sI_, sZ_, sS_])
 go_cut [41] (fun v41 wc => ∃ (kq : Nat) (x41_1 : Bool), v41 = .bool x41_1 ∧ Aside0 (impl_DiskOk.j0 kq x41_1 l0_0 l0_1 a0_2 l0_3 a0_4 = some r) ∧ Aside0 (kq ≤ k) ∧ Aside0 (wc.heap[gb178]? = some (.cells #[(.slice A0_0 l0_0.length c0_0), (.slice A0_1 l0_1.length c0_1), .int .i64 a0_2, (.slice A0_3 l0_3.length c0_3), .bool a0_4] 32 (0, 0))) ∧ Aside0 (Below w.heap.size w wc))
 case first =>
  have H := HC2.out
  clear HC2
  replace H := oB_ H
  obtain ⟨t179, A40, H⟩ := H
  replace H : (if t179 = true then (if (l0_1.length : Int) > 60 then (impl_DiskOk.j0 k true l0_0 l0_1 a0_2 l0_3 a0_4) else ((impl_in.f a0_2 0 100000).bind fun t180 => (if t180 = true then (if (l0_3.length : Int) > 20 then (impl_DiskOk.j0 k true l0_0 l0_1 a0_2 l0_3 a0_4) else (if a0_4 = true then (impl_DiskOk.j0 k (decide ((l0_1.length : Int) > 0)) l0_0 l0_1 a0_2 l0_3 a0_4) else (impl_DiskOk.j0 k false l0_0 l0_1 a0_2 l0_3 a0_4))) else (impl_DiskOk.j0 k true l0_0 l0_1 a0_2 l0_3 a0_4)))) else (impl_DiskOk.j0 k true l0_0 l0_1 a0_2 l0_3 a0_4)) = some r := H
  have A4 := aM_ A40
  clear A40
  by_cases c5 : t179 = true
  ·subst c5
   have H1 : (if (l0_1.length : Int) > 60 then (impl_DiskOk.j0 k true l0_0 l0_1 a0_2 l0_3 a0_4) else ((impl_in.f a0_2 0 100000).bind fun t180 => (if t180 = true then (if (l0_3.length : Int) > 20 then (impl_DiskOk.j0 k true l0_0 l0_1 a0_2 l0_3 a0_4) else (if a0_4 = true then (impl_DiskOk.j0 k (decide ((l0_1.length : Int) > 0)) l0_0 l0_1 a0_2 l0_3 a0_4) else (impl_DiskOk.j0 k false l0_0 l0_1 a0_2 l0_3 a0_4))) else (impl_DiskOk.j0 k true l0_0 l0_1 a0_2 l0_3 a0_4)))) = some r := by rw [if_pos rfl] at H; exact H
   clear H
   have H := H1
   clear H1
   by_cases c6 : (l0_1.length : Int) > 60
   ·rw [if_pos c6] at H
    have c6b0 : decide (60 < (l0_1.length : Int)) = true := decide_eq_true c6
    have c6b1 : decide (60 < l0_1.length) = true := decide_eq_true (by omega)
    clear c6
    (first | rw [c6b0] | (simp only [i64_w, i32_w]; rw [c6b0]) | skip)
    have H' := aM_ H
    clear H
    have hcz7_0 : w3.cell? ⟨gb178, 0, none⟩ = some (.slice A0_0 l0_0.length c0_0) := (kC_ BK178.out 0).trans rfl
    have hcz7_1 : w3.cell? ⟨gb178, 1, none⟩ = some (.slice A0_1 l0_1.length c0_1) := (kC_ BK178.out 1).trans rfl
    have hcz7_2 : w3.cell? ⟨gb178, 2, none⟩ = some (.int .i64 a0_2) := (kC_ BK178.out 2).trans rfl
    have hcz7_3 : w3.cell? ⟨gb178, 3, none⟩ = some (.slice A0_3 l0_3.length c0_3) := (kC_ BK178.out 3).trans rfl
    have hcz7_4 : w3.cell? ⟨gb178, 4, none⟩ = some (.bool a0_4) := (kC_ BK178.out 4).trans rfl
    have hfz7_0 := kF_ BK178.out 0
    have hfz7_1 := kF_ BK178.out 1
    have hfz7_2 := kF_ BK178.out 2
    have hfz7_3 := kF_ BK178.out 3
    have hfz7_4 := kF_ BK178.out 4
    go_wp2_with (first | ((with_reducible refine gate_callee (f := 62) rfl ?_); refine goesL_ (some 12) rfl rfl Try.func62 (by kernel_rfl) rfl #[.int .i64 (l0_0.length : Int), .int .i64 4, .int .i64 48] rfl (by (try simp only [mA_, mC_, mN_]); first | done | rfl | (simp only [lD_, lT_]; rfl)) ?_; (with_reducible refine (impl_in.calls (l0_0.length : Int) 4 48 true _ A4.out).mono ?_); rintro e w' ⟨rfl, ⟨nd, rfl⟩⟩; refine ⟨_, rfl, ?_⟩))
    (first | go_meet | (refine Met.intro ?_; go_step; (repeat apply Exists.intro); refine ⟨?rel, ?eq⟩; (case eq => (try simp only [c6b0]); rfl)))
    case rel => exact ⟨_, (true), (by first | rfl | (simp; done) | (simp [*]; done)), H', ⟨by first | omega | exact Nat.le_refl _⟩, ⟨by (with_reducible repeat (first | refine kN_ ?_ _ | refine kD_ ?_ | refine kA_ ?_ _)); exact BK178.out⟩, ⟨by repeat (first | (with_reducible first | exact HB.out | apply bA_ | apply bN_ | apply bD_ | refine bE_ ?_ GE178.out) | exact HB.out)⟩⟩
   ·rw [if_neg c6] at H
    have c6b0 : decide (60 < (l0_1.length : Int)) = false := decide_eq_false c6
    have c6b1 : decide (60 < l0_1.length) = false := decide_eq_false (by omega)
    clear c6
    (first | rw [c6b0] | (simp only [i64_w, i32_w]; rw [c6b0]) | skip)
    replace H := oB_ H
    obtain ⟨t180, A80, H⟩ := H
    replace H : (if t180 = true then (if (l0_3.length : Int) > 20 then (impl_DiskOk.j0 k true l0_0 l0_1 a0_2 l0_3 a0_4) else (if a0_4 = true then (impl_DiskOk.j0 k (decide ((l0_1.length : Int) > 0)) l0_0 l0_1 a0_2 l0_3 a0_4) else (impl_DiskOk.j0 k false l0_0 l0_1 a0_2 l0_3 a0_4))) else (impl_DiskOk.j0 k true l0_0 l0_1 a0_2 l0_3 a0_4)) = some r := H
    have A8 := aM_ A80
    clear A80
    by_cases c9 : t180 = true
    ·subst c9
     have H1 : (if (l0_3.length : Int) > 20 then (impl_DiskOk.j0 k true l0_0 l0_1 a0_2 l0_3 a0_4) else (if a0_4 = true then (impl_DiskOk.j0 k (decide ((l0_1.length : Int) > 0)) l0_0 l0_1 a0_2 l0_3 a0_4) else (impl_DiskOk.j0 k false l0_0 l0_1 a0_2 l0_3 a0_4))) = some r := by rw [if_pos rfl] at H; exact H
     clear H
     have H := H1
     clear H1
     by_cases c10 : (l0_3.length : Int) > 20
     ·rw [if_pos c10] at H
      have c10b0 : decide (20 < (l0_3.length : Int)) = true := decide_eq_true c10
      have c10b1 : decide (20 < l0_3.length) = true := decide_eq_true (by omega)
      clear c10
      have H' := aM_ H
      clear H
      have hcz11_0 : w3.cell? ⟨gb178, 0, none⟩ = some (.slice A0_0 l0_0.length c0_0) := (kC_ BK178.out 0).trans rfl
      have hcz11_1 : w3.cell? ⟨gb178, 1, none⟩ = some (.slice A0_1 l0_1.length c0_1) := (kC_ BK178.out 1).trans rfl
      have hcz11_2 : w3.cell? ⟨gb178, 2, none⟩ = some (.int .i64 a0_2) := (kC_ BK178.out 2).trans rfl
      have hcz11_3 : w3.cell? ⟨gb178, 3, none⟩ = some (.slice A0_3 l0_3.length c0_3) := (kC_ BK178.out 3).trans rfl
      have hcz11_4 : w3.cell? ⟨gb178, 4, none⟩ = some (.bool a0_4) := (kC_ BK178.out 4).trans rfl
      have hfz11_0 := kF_ BK178.out 0
      have hfz11_1 := kF_ BK178.out 1
      have hfz11_2 := kF_ BK178.out 2
      have hfz11_3 := kF_ BK178.out 3
      have hfz11_4 := kF_ BK178.out 4
      go_wp2_with (first | ((with_reducible refine gate_callee (f := 62) rfl ?_); refine goesL_ (some 12) rfl rfl Try.func62 (by kernel_rfl) rfl #[.int .i64 (l0_0.length : Int), .int .i64 4, .int .i64 48] rfl (by (try simp only [mA_, mC_, mN_]); first | done | rfl | (simp only [lD_, lT_]; rfl)) ?_; (with_reducible refine (impl_in.calls (l0_0.length : Int) 4 48 true _ A4.out).mono ?_); rintro e w' ⟨rfl, ⟨nd, rfl⟩⟩; refine ⟨_, rfl, ?_⟩) | (go_at_call 62; (with_reducible refine (impl_in.calls a0_2 0 100000 true _ A8.out).mono ?_); rintro e w' ⟨rfl, ⟨nd, rfl⟩⟩))
      (first | go_meet | (refine Met.intro ?_; go_step; (repeat apply Exists.intro); refine ⟨?rel, ?eq⟩; (case eq => (try simp only [c6b0]); (try simp only [c6b0]); rfl)))
      case rel => exact ⟨_, (true), (by first | rfl | (simp; done) | (simp [*]; done)), H', ⟨by first | omega | exact Nat.le_refl _⟩, ⟨by (with_reducible repeat (first | refine kN_ ?_ _ | refine kD_ ?_ | refine kA_ ?_ _)); exact BK178.out⟩, ⟨by repeat (first | (with_reducible first | exact HB.out | apply bA_ | apply bN_ | apply bD_ | refine bE_ ?_ GE178.out) | exact HB.out)⟩⟩
     ·rw [if_neg c10] at H
      have c10b0 : decide (20 < (l0_3.length : Int)) = false := decide_eq_false c10
      have c10b1 : decide (20 < l0_3.length) = false := decide_eq_false (by omega)
      clear c10
      by_cases c12 : a0_4 = true
      ·subst c12
       have H1 : (impl_DiskOk.j0 k (decide ((l0_1.length : Int) > 0)) l0_0 l0_1 a0_2 l0_3 true) = some r := by rw [if_pos rfl] at H; exact H
       clear H
       have H := H1
       clear H1
       have H' := aM_ H
       clear H
       have hcz13_0 : w3.cell? ⟨gb178, 0, none⟩ = some (.slice A0_0 l0_0.length c0_0) := (kC_ BK178.out 0).trans rfl
       have hcz13_1 : w3.cell? ⟨gb178, 1, none⟩ = some (.slice A0_1 l0_1.length c0_1) := (kC_ BK178.out 1).trans rfl
       have hcz13_2 : w3.cell? ⟨gb178, 2, none⟩ = some (.int .i64 a0_2) := (kC_ BK178.out 2).trans rfl
       have hcz13_3 : w3.cell? ⟨gb178, 3, none⟩ = some (.slice A0_3 l0_3.length c0_3) := (kC_ BK178.out 3).trans rfl
       have hcz13_4 : w3.cell? ⟨gb178, 4, none⟩ = some (.bool true) := (kC_ BK178.out 4).trans rfl
       have hfz13_0 := kF_ BK178.out 0
       have hfz13_1 := kF_ BK178.out 1
       have hfz13_2 := kF_ BK178.out 2
       have hfz13_3 := kF_ BK178.out 3
       have hfz13_4 := kF_ BK178.out 4
       go_wp2_with (first | ((with_reducible refine gate_callee (f := 62) rfl ?_); refine goesL_ (some 12) rfl rfl Try.func62 (by kernel_rfl) rfl #[.int .i64 (l0_0.length : Int), .int .i64 4, .int .i64 48] rfl (by (try simp only [mA_, mC_, mN_]); first | done | rfl | (simp only [lD_, lT_]; rfl)) ?_; (with_reducible refine (impl_in.calls (l0_0.length : Int) 4 48 true _ A4.out).mono ?_); rintro e w' ⟨rfl, ⟨nd, rfl⟩⟩; refine ⟨_, rfl, ?_⟩) | (go_at_call 62; (with_reducible refine (impl_in.calls a0_2 0 100000 true _ A8.out).mono ?_); rintro e w' ⟨rfl, ⟨nd, rfl⟩⟩))
       (first | go_meet | (refine Met.intro ?_; go_step; (repeat apply Exists.intro); refine ⟨?rel, ?eq⟩; (case eq => (try simp only [c6b0]); (try simp only [c6b0]); rfl)))
       case rel => exact ⟨_, (decide ((l0_1.length : Int) > 0)), (by first | rfl | (simp; done) | (simp [*]; done)), H', ⟨by first | omega | exact Nat.le_refl _⟩, ⟨by (with_reducible repeat (first | refine kN_ ?_ _ | refine kD_ ?_ | refine kA_ ?_ _)); exact BK178.out⟩, ⟨by repeat (first | (with_reducible first | exact HB.out | apply bA_ | apply bN_ | apply bD_ | refine bE_ ?_ GE178.out) | exact HB.out)⟩⟩
      ·replace c12 := Bool.eq_false_iff.mpr c12
       subst c12
       have H1 : (impl_DiskOk.j0 k false l0_0 l0_1 a0_2 l0_3 false) = some r := by rw [if_neg (show ¬ (false = true) by decide)] at H; exact H
       clear H
       have H := H1
       clear H1
       have H' := aM_ H
       clear H
       have hcz14_0 : w3.cell? ⟨gb178, 0, none⟩ = some (.slice A0_0 l0_0.length c0_0) := (kC_ BK178.out 0).trans rfl
       have hcz14_1 : w3.cell? ⟨gb178, 1, none⟩ = some (.slice A0_1 l0_1.length c0_1) := (kC_ BK178.out 1).trans rfl
       have hcz14_2 : w3.cell? ⟨gb178, 2, none⟩ = some (.int .i64 a0_2) := (kC_ BK178.out 2).trans rfl
       have hcz14_3 : w3.cell? ⟨gb178, 3, none⟩ = some (.slice A0_3 l0_3.length c0_3) := (kC_ BK178.out 3).trans rfl
       have hcz14_4 : w3.cell? ⟨gb178, 4, none⟩ = some (.bool false) := (kC_ BK178.out 4).trans rfl
       have hfz14_0 := kF_ BK178.out 0
       have hfz14_1 := kF_ BK178.out 1
       have hfz14_2 := kF_ BK178.out 2
       have hfz14_3 := kF_ BK178.out 3
       have hfz14_4 := kF_ BK178.out 4
       go_wp2_with (first | ((with_reducible refine gate_callee (f := 62) rfl ?_); refine goesL_ (some 12) rfl rfl Try.func62 (by kernel_rfl) rfl #[.int .i64 (l0_0.length : Int), .int .i64 4, .int .i64 48] rfl (by (try simp only [mA_, mC_, mN_]); first | done | rfl | (simp only [lD_, lT_]; rfl)) ?_; (with_reducible refine (impl_in.calls (l0_0.length : Int) 4 48 true _ A4.out).mono ?_); rintro e w' ⟨rfl, ⟨nd, rfl⟩⟩; refine ⟨_, rfl, ?_⟩) | (go_at_call 62; (with_reducible refine (impl_in.calls a0_2 0 100000 true _ A8.out).mono ?_); rintro e w' ⟨rfl, ⟨nd, rfl⟩⟩))
       (first | go_meet | (refine Met.intro ?_; go_step; (repeat apply Exists.intro); refine ⟨?rel, ?eq⟩; (case eq => (try simp only [c6b0]); (try simp only [c6b0]); rfl)))
       case rel => exact ⟨_, (false), (by first | rfl | (simp; done) | (simp [*]; done)), H', ⟨by first | omega | exact Nat.le_refl _⟩, ⟨by (with_reducible repeat (first | refine kN_ ?_ _ | refine kD_ ?_ | refine kA_ ?_ _)); exact BK178.out⟩, ⟨by repeat (first | (with_reducible first | exact HB.out | apply bA_ | apply bN_ | apply bD_ | refine bE_ ?_ GE178.out) | exact HB.out)⟩⟩
    ·replace c9 := Bool.eq_false_iff.mpr c9
     subst c9
     have H1 : (impl_DiskOk.j0 k true l0_0 l0_1 a0_2 l0_3 a0_4) = some r := by rw [if_neg (show ¬ (false = true) by decide)] at H; exact H
     clear H
     have H := H1
     clear H1
     have H' := aM_ H
     clear H
     have hcz15_0 : w3.cell? ⟨gb178, 0, none⟩ = some (.slice A0_0 l0_0.length c0_0) := (kC_ BK178.out 0).trans rfl
     have hcz15_1 : w3.cell? ⟨gb178, 1, none⟩ = some (.slice A0_1 l0_1.length c0_1) := (kC_ BK178.out 1).trans rfl
     have hcz15_2 : w3.cell? ⟨gb178, 2, none⟩ = some (.int .i64 a0_2) := (kC_ BK178.out 2).trans rfl
     have hcz15_3 : w3.cell? ⟨gb178, 3, none⟩ = some (.slice A0_3 l0_3.length c0_3) := (kC_ BK178.out 3).trans rfl
     have hcz15_4 : w3.cell? ⟨gb178, 4, none⟩ = some (.bool a0_4) := (kC_ BK178.out 4).trans rfl
     have hfz15_0 := kF_ BK178.out 0
     have hfz15_1 := kF_ BK178.out 1
     have hfz15_2 := kF_ BK178.out 2
     have hfz15_3 := kF_ BK178.out 3
     have hfz15_4 := kF_ BK178.out 4
     go_wp2_with (first | ((with_reducible refine gate_callee (f := 62) rfl ?_); refine goesL_ (some 12) rfl rfl Try.func62 (by kernel_rfl) rfl #[.int .i64 (l0_0.length : Int), .int .i64 4, .int .i64 48] rfl (by (try simp only [mA_, mC_, mN_]); first | done | rfl | (simp only [lD_, lT_]; rfl)) ?_; (with_reducible refine (impl_in.calls (l0_0.length : Int) 4 48 true _ A4.out).mono ?_); rintro e w' ⟨rfl, ⟨nd, rfl⟩⟩; refine ⟨_, rfl, ?_⟩) | (go_at_call 62; (with_reducible refine (impl_in.calls a0_2 0 100000 false _ A8.out).mono ?_); rintro e w' ⟨rfl, ⟨nd, rfl⟩⟩))
     (first | go_meet | (refine Met.intro ?_; go_step; (repeat apply Exists.intro); refine ⟨?rel, ?eq⟩; (case eq => (try simp only [c6b0]); (try simp only [c6b0]); rfl)))
     case rel => exact ⟨_, (true), (by first | rfl | (simp; done) | (simp [*]; done)), H', ⟨by first | omega | exact Nat.le_refl _⟩, ⟨by (with_reducible repeat (first | refine kN_ ?_ _ | refine kD_ ?_ | refine kA_ ?_ _)); exact BK178.out⟩, ⟨by repeat (first | (with_reducible first | exact HB.out | apply bA_ | apply bN_ | apply bD_ | refine bE_ ?_ GE178.out) | exact HB.out)⟩⟩
  ·replace c5 := Bool.eq_false_iff.mpr c5
   subst c5
   have H1 : (impl_DiskOk.j0 k true l0_0 l0_1 a0_2 l0_3 a0_4) = some r := by rw [if_neg (show ¬ (false = true) by decide)] at H; exact H
   clear H
   have H := H1
   clear H1
   have H' := aM_ H
   clear H
   have hcz16_0 : w3.cell? ⟨gb178, 0, none⟩ = some (.slice A0_0 l0_0.length c0_0) := (kC_ BK178.out 0).trans rfl
   have hcz16_1 : w3.cell? ⟨gb178, 1, none⟩ = some (.slice A0_1 l0_1.length c0_1) := (kC_ BK178.out 1).trans rfl
   have hcz16_2 : w3.cell? ⟨gb178, 2, none⟩ = some (.int .i64 a0_2) := (kC_ BK178.out 2).trans rfl
   have hcz16_3 : w3.cell? ⟨gb178, 3, none⟩ = some (.slice A0_3 l0_3.length c0_3) := (kC_ BK178.out 3).trans rfl
   have hcz16_4 : w3.cell? ⟨gb178, 4, none⟩ = some (.bool a0_4) := (kC_ BK178.out 4).trans rfl
   have hfz16_0 := kF_ BK178.out 0
   have hfz16_1 := kF_ BK178.out 1
   have hfz16_2 := kF_ BK178.out 2
   have hfz16_3 := kF_ BK178.out 3
   have hfz16_4 := kF_ BK178.out 4
   go_wp2_with (first | ((with_reducible refine gate_callee (f := 62) rfl ?_); refine goesL_ (some 12) rfl rfl Try.func62 (by kernel_rfl) rfl #[.int .i64 (l0_0.length : Int), .int .i64 4, .int .i64 48] rfl (by (try simp only [mA_, mC_, mN_]); first | done | rfl | (simp only [lD_, lT_]; rfl)) ?_; (with_reducible refine (impl_in.calls (l0_0.length : Int) 4 48 false _ A4.out).mono ?_); rintro e w' ⟨rfl, ⟨nd, rfl⟩⟩; refine ⟨_, rfl, ?_⟩))
   (first | go_meet | (refine Met.intro ?_; go_step; (repeat apply Exists.intro); refine ⟨?rel, ?eq⟩; (case eq => (try simp only [c6b0]); (try simp only [c6b0]); rfl)))
   case rel => exact ⟨_, (true), (by first | rfl | (simp; done) | (simp [*]; done)), H', ⟨by first | omega | exact Nat.le_refl _⟩, ⟨by (with_reducible repeat (first | refine kN_ ?_ _ | refine kD_ ?_ | refine kA_ ?_ _)); exact BK178.out⟩, ⟨by repeat (first | (with_reducible first | exact HB.out | apply bA_ | apply bN_ | apply bD_ | refine bE_ ?_ GE178.out) | exact HB.out)⟩⟩
 case rest =>
  clear HC2
  try clear c1
  try clear p2
  try clear c5
  try clear c6
  try clear c6b0
  try clear c6b1
  try clear c9
  try clear c10
  try clear c10b0
  try clear c10b1
  try clear c12
  try clear hcz11_0
  try clear hcz11_1
  try clear hcz11_2
  try clear hcz11_3
  try clear hcz11_4
  try clear hcz13_0
  try clear hcz13_1
  try clear hcz13_2
  try clear hcz13_3
  try clear hcz13_4
  try clear hcz14_0
  try clear hcz14_1
  try clear hcz14_2
  try clear hcz14_3
  try clear hcz14_4
  try clear hcz15_0
  try clear hcz15_1
  try clear hcz15_2
  try clear hcz15_3
  try clear hcz15_4
  try clear hcz16_0
  try clear hcz16_1
  try clear hcz16_2
  try clear hcz16_3
  try clear hcz16_4
  try clear hcz7_0
  try clear hcz7_1
  try clear hcz7_2
  try clear hcz7_3
  try clear hcz7_4
  try clear hfz11_0
  try clear hfz11_1
  try clear hfz11_2
  try clear hfz11_3
  try clear hfz11_4
  try clear hfz13_0
  try clear hfz13_1
  try clear hfz13_2
  try clear hfz13_3
  try clear hfz13_4
  try clear hfz14_0
  try clear hfz14_1
  try clear hfz14_2
  try clear hfz14_3
  try clear hfz14_4
  try clear hfz15_0
  try clear hfz15_1
  try clear hfz15_2
  try clear hfz15_3
  try clear hfz15_4
  try clear hfz16_0
  try clear hfz16_1
  try clear hfz16_2
  try clear hfz16_3
  try clear hfz16_4
  try clear hfz7_0
  try clear hfz7_1
  try clear hfz7_2
  try clear hfz7_3
  try clear hfz7_4
  obtain ⟨kq, x41_1, rfl, HA, HJ1, BK178, HB⟩ := hcut
  cases kq with
  | zero => exact absurd HA.out (by simp [impl_DiskOk.j0])
  | succ kj1 =>
   have H := HA.out
   clear HA
   simp only [impl_DiskOk.j0] at H
   by_cases c17 : x41_1 = true
   ·subst c17
    have H1 : (some false) = some r := by rw [if_pos rfl] at H; exact H
    clear H
    have H := H1
    clear H1
    obtain rfl := Option.some.inj H
    go_wp2
    go_ret
    exact ⟨by first | rfl | (simp [errW_none, errW_some] <;> rfl) | (simp [*, errW_none, errW_some] <;> rfl), by repeat (first | (with_reducible first | exact HB.out | apply bA_ | apply bN_ | apply bD_ | refine bE_ ?_ GE178.out) | exact HB.out)⟩
   ·replace c17 := Bool.eq_false_iff.mpr c17
    subst c17
    have H1 : (impl_DiskOk.l0 kj1 l0_0 (l0_0.length : Int) 0 l0_0 l0_1 a0_2 l0_3 a0_4) = some r := by rw [if_neg (show ¬ (false = true) by decide)] at H; exact H
    clear H
    have H := H1
    clear H1
    have H' := aM_ H
    clear H
    have hcz18_0 : wc.cell? ⟨gb178, 0, none⟩ = some (.slice A0_0 l0_0.length c0_0) := (kC_ BK178.out 0).trans rfl
    have hcz18_1 : wc.cell? ⟨gb178, 1, none⟩ = some (.slice A0_1 l0_1.length c0_1) := (kC_ BK178.out 1).trans rfl
    have hcz18_2 : wc.cell? ⟨gb178, 2, none⟩ = some (.int .i64 a0_2) := (kC_ BK178.out 2).trans rfl
    have hcz18_3 : wc.cell? ⟨gb178, 3, none⟩ = some (.slice A0_3 l0_3.length c0_3) := (kC_ BK178.out 3).trans rfl
    have hcz18_4 : wc.cell? ⟨gb178, 4, none⟩ = some (.bool a0_4) := (kC_ BK178.out 4).trans rfl
    have hfz18_0 := kF_ BK178.out 0
    have hfz18_1 := kF_ BK178.out 1
    have hfz18_2 := kF_ BK178.out 2
    have hfz18_3 := kF_ BK178.out 3
    have hfz18_4 := kF_ BK178.out 4
    go_wp2
    (try simp only [Act.put, sI_, sS_, sZ_])
    go_loopg [45] kj1 (fun kq v45 w' => ∃ (x45_2 : Int), v45 = .int .i64 x45_2 ∧ Aside0 (impl_DiskOk.l0 kq l0_0 (l0_0.length : Int) x45_2 l0_0 l0_1 a0_2 l0_3 a0_4 = some r) ∧ Aside0 (kq ≤ kj1) ∧ Aside0 (w'.heap[gb178]? = some (.cells #[(.slice A0_0 l0_0.length c0_0), (.slice A0_1 l0_1.length c0_1), .int .i64 a0_2, (.slice A0_3 l0_3.length c0_3), .bool a0_4] 32 (0, 0))) ∧ Aside0 (Below w.heap.size w w'))
    case atStart => exact ⟨(0), (by first | rfl | (simp; done) | (simp [*]; done)), H', ⟨Nat.le_refl _⟩, ⟨by (with_reducible repeat (first | refine kN_ ?_ _ | refine kD_ ?_ | refine kA_ ?_ _)); exact BK178.out⟩, ⟨by repeat (first | (with_reducible first | exact HB.out | apply bA_ | apply bN_ | apply bD_ | refine bE_ ?_ GE178.out) | exact HB.out)⟩⟩
    case round =>
     clear H'
     try clear c1
     try clear p2
     try clear c5
     try clear c6
     try clear c6b0
     try clear c6b1
     try clear c9
     try clear c10
     try clear c10b0
     try clear c10b1
     try clear c12
     try clear c17
     try clear hcz11_0
     try clear hcz11_1
     try clear hcz11_2
     try clear hcz11_3
     try clear hcz11_4
     try clear hcz13_0
     try clear hcz13_1
     try clear hcz13_2
     try clear hcz13_3
     try clear hcz13_4
     try clear hcz14_0
     try clear hcz14_1
     try clear hcz14_2
     try clear hcz14_3
     try clear hcz14_4
     try clear hcz15_0
     try clear hcz15_1
     try clear hcz15_2
     try clear hcz15_3
     try clear hcz15_4
     try clear hcz16_0
     try clear hcz16_1
     try clear hcz16_2
     try clear hcz16_3
     try clear hcz16_4
     try clear hcz18_0
     try clear hcz18_1
     try clear hcz18_2
     try clear hcz18_3
     try clear hcz18_4
     try clear hcz7_0
     try clear hcz7_1
     try clear hcz7_2
     try clear hcz7_3
     try clear hcz7_4
     try clear hfz11_0
     try clear hfz11_1
     try clear hfz11_2
     try clear hfz11_3
     try clear hfz11_4
     try clear hfz13_0
     try clear hfz13_1
     try clear hfz13_2
     try clear hfz13_3
     try clear hfz13_4
     try clear hfz14_0
     try clear hfz14_1
     try clear hfz14_2
     try clear hfz14_3
     try clear hfz14_4
     try clear hfz15_0
     try clear hfz15_1
     try clear hfz15_2
     try clear hfz15_3
     try clear hfz15_4
     try clear hfz16_0
     try clear hfz16_1
     try clear hfz16_2
     try clear hfz16_3
     try clear hfz16_4
     try clear hfz18_0
     try clear hfz18_1
     try clear hfz18_2
     try clear hfz18_3
     try clear hfz18_4
     try clear hfz7_0
     try clear hfz7_1
     try clear hfz7_2
     try clear hfz7_3
     try clear hfz7_4
     try clear p2
     obtain ⟨x45_2, rfl, HA, HK2, BK178, HB⟩ := hrel
     cases gk with
     | zero => exact absurd HA.out (by simp [impl_DiskOk.l0])
     | succ k2 =>
      have H := HA.out
      clear HA
      simp only [impl_DiskOk.l0] at H
      by_cases c19 : x45_2 < (l0_0.length : Int)
      ·rw [if_pos c19] at H
       have c19b0 : decide (x45_2 < (l0_0.length : Int)) = true := decide_eq_true c19
       clear c19
       by_cases c20 : 0 ≤ x45_2
       ·rw [if_pos c20] at H
        have c20b0 : decide (0 ≤ x45_2) = true := decide_eq_true c20
        clear c20
        by_cases c21 : x45_2 < (l0_0.length : Int)
        ·rw [if_pos c21] at H
         have c21b0 : decide (x45_2 < (l0_0.length : Int)) = true := decide_eq_true c21
         clear c21
         by_cases c22 : ((rd_L3 l0_0 x45_2).length : Int) > 256
         ·rw [if_pos c22] at H
          have c22b0 : decide (256 < ((rd_L3 l0_0 x45_2).length : Int)) = true := decide_eq_true c22
          have c22b1 : decide (256 < (rd_L3 l0_0 x45_2).length) = true := decide_eq_true (by omega)
          clear c22
          obtain rfl := Option.some.inj H
          have p181 : 0 ≤ (x45_2 : Int) := oT_ (by first | (with_reducible assumption) | assumption)
          have q181 : x45_2 < (l0_0.length : Int) := oT_ (by first | (with_reducible assumption) | assumption)
          obtain ⟨ad181, A181_0, c181_0, e181, hx181_0, hl181_0, hi181_0⟩ := at_L3 HR0_0.out x45_2 p181 q181
          cases e181
          replace hx181_0 := (HB.out.cell (wL_ w _ hx181_0)).trans hx181_0
          have HR181_0 := aM_ hi181_0
          have HC181_0 := aM_ hl181_0
          clear hi181_0 hl181_0
          replace p181 := eq_true p181
          replace q181 := eq_true q181
          go_wp2
          go_ret
          exact ⟨by first | rfl | (simp [errW_none, errW_some] <;> rfl) | (simp [*, errW_none, errW_some] <;> rfl), by repeat (first | (with_reducible first | exact HB.out | apply bA_ | apply bN_ | apply bD_ | refine bE_ ?_ GE178.out) | exact HB.out)⟩
         ·rw [if_neg c22] at H
          have c22b0 : decide (256 < ((rd_L3 l0_0 x45_2).length : Int)) = false := decide_eq_false c22
          have c22b1 : decide (256 < (rd_L3 l0_0 x45_2).length) = false := decide_eq_false (by omega)
          clear c22
          have H' := aM_ H
          clear H
          have p181 : 0 ≤ (x45_2 : Int) := oT_ (by first | (with_reducible assumption) | assumption)
          have q181 : x45_2 < (l0_0.length : Int) := oT_ (by first | (with_reducible assumption) | assumption)
          obtain ⟨ad181, A181_0, c181_0, e181, hx181_0, hl181_0, hi181_0⟩ := at_L3 HR0_0.out x45_2 p181 q181
          cases e181
          replace hx181_0 := (HB.out.cell (wL_ w _ hx181_0)).trans hx181_0
          have HR181_0 := aM_ hi181_0
          have HC181_0 := aM_ hl181_0
          clear hi181_0 hl181_0
          replace p181 := eq_true p181
          replace q181 := eq_true q181
          go_wp2
          go_roundg k2
          case measure => have := HJ1.out; have := HK2.out; omega
          case rel => exact ⟨(wrap64 (x45_2 + 1)), (by first | rfl | (simp; done) | (simp [*]; done)), H', ⟨by have := HJ1.out; have := HK2.out; omega⟩, ⟨by (with_reducible repeat (first | refine kN_ ?_ _ | refine kD_ ?_ | refine kA_ ?_ _)); exact BK178.out⟩, ⟨by repeat (first | (with_reducible first | exact HB.out | apply bA_ | apply bN_ | apply bD_ | refine bE_ ?_ GE178.out) | exact HB.out)⟩⟩
        ·rw [if_neg c21] at H
         exact absurd H (by simp)
       ·rw [if_neg c20] at H
        exact absurd H (by simp)
      ·rw [if_neg c19] at H
       have c19b0 : decide (x45_2 < (l0_0.length : Int)) = false := decide_eq_false c19
       clear c19
       have H' := aM_ H
       clear H
       have hcz23_0 : wr.cell? ⟨gb178, 0, none⟩ = some (.slice A0_0 l0_0.length c0_0) := (kC_ BK178.out 0).trans rfl
       have hcz23_1 : wr.cell? ⟨gb178, 1, none⟩ = some (.slice A0_1 l0_1.length c0_1) := (kC_ BK178.out 1).trans rfl
       have hcz23_2 : wr.cell? ⟨gb178, 2, none⟩ = some (.int .i64 a0_2) := (kC_ BK178.out 2).trans rfl
       have hcz23_3 : wr.cell? ⟨gb178, 3, none⟩ = some (.slice A0_3 l0_3.length c0_3) := (kC_ BK178.out 3).trans rfl
       have hcz23_4 : wr.cell? ⟨gb178, 4, none⟩ = some (.bool a0_4) := (kC_ BK178.out 4).trans rfl
       have hfz23_0 := kF_ BK178.out 0
       have hfz23_1 := kF_ BK178.out 1
       have hfz23_2 := kF_ BK178.out 2
       have hfz23_3 := kF_ BK178.out 3
       have hfz23_4 := kF_ BK178.out 4
       go_wp2
       (try simp only [Act.put, sI_, sS_, sZ_])
       go_loopg [56] k2 (fun kq v56 w' => ∃ (x56_3 : Int), v56 = .int .i64 x56_3 ∧ Aside0 (impl_DiskOk.l1 kq l0_1 (l0_1.length : Int) x56_3 l0_0 l0_1 a0_2 l0_3 a0_4 = some r) ∧ Aside0 (kq ≤ k2) ∧ Aside0 (w'.heap[gb178]? = some (.cells #[(.slice A0_0 l0_0.length c0_0), (.slice A0_1 l0_1.length c0_1), .int .i64 a0_2, (.slice A0_3 l0_3.length c0_3), .bool a0_4] 32 (0, 0))) ∧ Aside0 (Below w.heap.size w w'))
       case atStart => exact ⟨(0), (by first | rfl | (simp; done) | (simp [*]; done)), H', ⟨Nat.le_refl _⟩, ⟨by (with_reducible repeat (first | refine kN_ ?_ _ | refine kD_ ?_ | refine kA_ ?_ _)); exact BK178.out⟩, ⟨by repeat (first | (with_reducible first | exact HB.out | apply bA_ | apply bN_ | apply bD_ | refine bE_ ?_ GE178.out) | exact HB.out)⟩⟩
       case round =>
        clear H'
        try clear c1
        try clear p1
        try clear q1
        try clear hx1
        try clear c2
        try clear p2
        try clear c5
        try clear c6
        try clear c6b0
        try clear c6b1
        try clear p6
        try clear c9
        try clear c10
        try clear c10b0
        try clear c10b1
        try clear c12
        try clear c17
        try clear c18
        try clear p18
        try clear q18
        try clear hx18
        try clear c19
        try clear c19b0
        try clear c20
        try clear c20b0
        try clear c21
        try clear c21b0
        try clear c22
        try clear c22b0
        try clear c22b1
        try clear hcz11_0
        try clear hcz11_1
        try clear hcz11_2
        try clear hcz11_3
        try clear hcz11_4
        try clear hcz13_0
        try clear hcz13_1
        try clear hcz13_2
        try clear hcz13_3
        try clear hcz13_4
        try clear hcz14_0
        try clear hcz14_1
        try clear hcz14_2
        try clear hcz14_3
        try clear hcz14_4
        try clear hcz15_0
        try clear hcz15_1
        try clear hcz15_2
        try clear hcz15_3
        try clear hcz15_4
        try clear hcz16_0
        try clear hcz16_1
        try clear hcz16_2
        try clear hcz16_3
        try clear hcz16_4
        try clear hcz18_0
        try clear hcz18_1
        try clear hcz18_2
        try clear hcz18_3
        try clear hcz18_4
        try clear hcz23_0
        try clear hcz23_1
        try clear hcz23_2
        try clear hcz23_3
        try clear hcz23_4
        try clear hcz7_0
        try clear hcz7_1
        try clear hcz7_2
        try clear hcz7_3
        try clear hcz7_4
        try clear hfz11_0
        try clear hfz11_1
        try clear hfz11_2
        try clear hfz11_3
        try clear hfz11_4
        try clear hfz13_0
        try clear hfz13_1
        try clear hfz13_2
        try clear hfz13_3
        try clear hfz13_4
        try clear hfz14_0
        try clear hfz14_1
        try clear hfz14_2
        try clear hfz14_3
        try clear hfz14_4
        try clear hfz15_0
        try clear hfz15_1
        try clear hfz15_2
        try clear hfz15_3
        try clear hfz15_4
        try clear hfz16_0
        try clear hfz16_1
        try clear hfz16_2
        try clear hfz16_3
        try clear hfz16_4
        try clear hfz18_0
        try clear hfz18_1
        try clear hfz18_2
        try clear hfz18_3
        try clear hfz18_4
        try clear hfz23_0
        try clear hfz23_1
        try clear hfz23_2
        try clear hfz23_3
        try clear hfz23_4
        try clear hfz7_0
        try clear hfz7_1
        try clear hfz7_2
        try clear hfz7_3
        try clear hfz7_4
        try clear hx181_0
        try clear p181
        try clear p2
        try clear q181
        obtain ⟨x56_3, rfl, HA, HK3, BK178, HB⟩ := hrel
        cases gk with
        | zero => exact absurd HA.out (by simp [impl_DiskOk.l1])
        | succ k3 =>
         have H := HA.out
         clear HA
         simp only [impl_DiskOk.l1] at H
         by_cases c24 : x56_3 < (l0_1.length : Int)
         ·rw [if_pos c24] at H
          have c24b0 : decide (x56_3 < (l0_1.length : Int)) = true := decide_eq_true c24
          clear c24
          by_cases c25 : 0 ≤ x56_3
          ·rw [if_pos c25] at H
           have c25b0 : decide (0 ≤ x56_3) = true := decide_eq_true c25
           clear c25
           by_cases c26 : x56_3 < (l0_1.length : Int)
           ·rw [if_pos c26] at H
            have c26b0 : decide (x56_3 < (l0_1.length : Int)) = true := decide_eq_true c26
            clear c26
            replace H := oB_ H
            obtain ⟨t184, A270, H⟩ := H
            replace H : (if t184 = true then (if (((rd_T58 l0_1 x56_3).f1).length : Int) > 256 then (some false) else (impl_DiskOk.l1 k3 l0_1 (l0_1.length : Int) (wrap64 (x56_3 + 1)) l0_0 l0_1 a0_2 l0_3 a0_4)) else (some false)) = some r := H
            have A27 := aM_ A270
            clear A270
            by_cases c28 : t184 = true
            ·subst c28
             have H1 : (if (((rd_T58 l0_1 x56_3).f1).length : Int) > 256 then (some false) else (impl_DiskOk.l1 k3 l0_1 (l0_1.length : Int) (wrap64 (x56_3 + 1)) l0_0 l0_1 a0_2 l0_3 a0_4)) = some r := by rw [if_pos rfl] at H; exact H
             clear H
             have H := H1
             clear H1
             by_cases c29 : (((rd_T58 l0_1 x56_3).f1).length : Int) > 256
             ·rw [if_pos c29] at H
              have c29b0 : decide (256 < (((rd_T58 l0_1 x56_3).f1).length : Int)) = true := decide_eq_true c29
              have c29b1 : decide (256 < ((rd_T58 l0_1 x56_3).f1).length) = true := decide_eq_true (by omega)
              clear c29
              obtain rfl := Option.some.inj H
              have p182 : 0 ≤ (x56_3 : Int) := oT_ (by first | (with_reducible assumption) | assumption)
              have q182 : x56_3 < (l0_1.length : Int) := oT_ (by first | (with_reducible assumption) | assumption)
              obtain ⟨ad182, A182_1, c182_1, e182, hx182_0, hx182_1, hl182_1, hi182_1⟩ := at_T58 HR0_1.out x56_3 p182 q182
              cases e182
              replace hx182_0 := (HB.out.cell (wL_ w _ hx182_0)).trans hx182_0
              replace hx182_1 := (HB.out.cell (wL_ w _ hx182_1)).trans hx182_1
              have HR182_1 := aM_ hi182_1
              have HC182_1 := aM_ hl182_1
              clear hi182_1 hl182_1
              replace p182 := eq_true p182
              replace q182 := eq_true q182
              go_wp2_with (first | ((with_reducible refine gate_dst (N := 6) rfl ?_); (try (refine gate_guard (by rfl) ?_; dsimp only)); refine box_event ?hg (N := 6) ?hd (cs := #[.int .i64 0, .slice none 0 0]) (t := 58) ?hr ?_; (case hd => rfl); (case hg => rfl); (case hr => first | (go_simp; done) | (go_simp; rfl)); intro gb183 hg w30 hbox hb; have n0_ := aM_ (blk_below (g := gb178) (o := .cells #[.slice A0_0 l0_0.length c0_0, .slice (some ad182) l0_1.length c0_1, .int .i64 a0_2, .slice A0_3 l0_3.length c0_3, .bool a0_4] 32 (0, 0)) (by (with_reducible repeat (first | refine kN_ ?_ _ | refine kD_ ?_ | refine kA_ ?_ _)); exact BK178.out) hb); have n1_ := aM_ (bT_ (by repeat (first | (with_reducible first | exact HB.out | apply bA_ | apply bN_ | apply bD_ | refine bE_ ?_ GE178.out) | exact HB.out)) hb); have n2_ := aM_ (hbox); have n3_ := aM_ ((by rw [hg]; exact (bS_ (by repeat (first | (with_reducible first | exact HB.out | apply bA_ | apply bN_ | apply bD_ | refine bE_ ?_ GE178.out) | exact HB.out))) : w.heap.size ≤ gb183)); have n4_ := aM_ ((by rw [hg]; exact (bS_ (by repeat (first | (with_reducible first | exact HB.out | apply bA_ | apply bN_ | apply bD_ | refine bE_ ?_ GE178.out) | exact HB.out))) : w.heap.size ≤ gb183)); have n5_ := aM_ ((by rw [hg]; exact Nat.ne_of_lt (blk_lt (g := gb178) (o := .cells #[.slice A0_0 l0_0.length c0_0, .slice (some ad182) l0_1.length c0_1, .int .i64 a0_2, .slice A0_3 l0_3.length c0_3, .bool a0_4] 32 (0, 0)) (by (with_reducible repeat (first | refine kN_ ?_ _ | refine kD_ ?_ | refine kA_ ?_ _)); exact BK178.out)) : gb178 ≠ gb183)); have n6_ := aM_ ((by rw [hg]; exact Nat.ne_of_gt (blk_lt (g := gb178) (o := .cells #[.slice A0_0 l0_0.length c0_0, .slice (some ad182) l0_1.length c0_1, .int .i64 a0_2, .slice A0_3 l0_3.length c0_3, .bool a0_4] 32 (0, 0)) (by (with_reducible repeat (first | refine kN_ ?_ _ | refine kD_ ?_ | refine kA_ ?_ _)); exact BK178.out)) : gb183 ≠ gb178)); clear BK178; clear HB; have BK178 := n0_; have HB := n1_; have BK183 := n2_; have GW183 := n3_; have GE183 := n4_; have NB178_183 := n5_; have NB183_178 := n6_; clear n0_ n1_ n2_ n3_ n4_ n5_ n6_; clear hb hbox hg; have hnb31 := NB183_178.out; have hnc31 := NB178_183.out; have hcz32_0 : w30.cell? ⟨gb183, 0, none⟩ = some (.int .i64 0) := (kC_ BK183.out 0).trans rfl; have hcz32_1 : w30.cell? ⟨gb183, 1, none⟩ = some (.slice none 0 0) := (kC_ BK183.out 1).trans rfl; have hfz32_0 := kF_ BK183.out 0; have hfz32_1 := kF_ BK183.out 1; have hcz33_0 : w30.cell? ⟨gb178, 0, none⟩ = some (.slice A0_0 l0_0.length c0_0) := (kC_ BK178.out 0).trans rfl; have hcz33_1 : w30.cell? ⟨gb178, 1, none⟩ = some (.slice (some ad182) l0_1.length c0_1) := (kC_ BK178.out 1).trans rfl; have hcz33_2 : w30.cell? ⟨gb178, 2, none⟩ = some (.int .i64 a0_2) := (kC_ BK178.out 2).trans rfl; have hcz33_3 : w30.cell? ⟨gb178, 3, none⟩ = some (.slice A0_3 l0_3.length c0_3) := (kC_ BK178.out 3).trans rfl; have hcz33_4 : w30.cell? ⟨gb178, 4, none⟩ = some (.bool a0_4) := (kC_ BK178.out 4).trans rfl; have hfz33_0 := kF_ BK178.out 0; have hfz33_1 := kF_ BK178.out 1; have hfz33_2 := kF_ BK178.out 2; have hfz33_3 := kF_ BK178.out 3; have hfz33_4 := kF_ BK178.out 4) | ((with_reducible refine gate_callee (f := 62) rfl ?_); refine goesL_ (some 66) rfl rfl Try.func62 (by kernel_rfl) rfl #[.int .i64 ((rd_T58 l0_1 x56_3).f0), .int .i64 0, .int .i64 (wrap64 ((l0_0.length : Int) - 1))] rfl (by (try simp only [mA_, mC_, mN_]); first | done | rfl | (simp only [lD_, lT_]; rfl)) ?_; (with_reducible refine (impl_in.calls ((rd_T58 l0_1 x56_3).f0) 0 (wrap64 ((l0_0.length : Int) - 1)) true _ A27.out).mono ?_); rintro e w' ⟨rfl, ⟨nd, rfl⟩⟩; refine ⟨_, rfl, ?_⟩))
              go_ret
              exact ⟨by first | rfl | (simp [errW_none, errW_some] <;> rfl) | (simp [*, errW_none, errW_some] <;> rfl), by repeat (first | (with_reducible first | exact HB.out | apply bA_ | apply bN_ | apply bD_ | refine bE_ ?_ GE178.out | refine bE_ ?_ GE183.out) | exact HB.out)⟩
             ·rw [if_neg c29] at H
              have c29b0 : decide (256 < (((rd_T58 l0_1 x56_3).f1).length : Int)) = false := decide_eq_false c29
              have c29b1 : decide (256 < ((rd_T58 l0_1 x56_3).f1).length) = false := decide_eq_false (by omega)
              clear c29
              have H' := aM_ H
              clear H
              have p182 : 0 ≤ (x56_3 : Int) := oT_ (by first | (with_reducible assumption) | assumption)
              have q182 : x56_3 < (l0_1.length : Int) := oT_ (by first | (with_reducible assumption) | assumption)
              obtain ⟨ad182, A182_1, c182_1, e182, hx182_0, hx182_1, hl182_1, hi182_1⟩ := at_T58 HR0_1.out x56_3 p182 q182
              cases e182
              replace hx182_0 := (HB.out.cell (wL_ w _ hx182_0)).trans hx182_0
              replace hx182_1 := (HB.out.cell (wL_ w _ hx182_1)).trans hx182_1
              have HR182_1 := aM_ hi182_1
              have HC182_1 := aM_ hl182_1
              clear hi182_1 hl182_1
              replace p182 := eq_true p182
              replace q182 := eq_true q182
              go_wp2_with (first | ((with_reducible refine gate_dst (N := 6) rfl ?_); (try (refine gate_guard (by rfl) ?_; dsimp only)); refine box_event ?hg (N := 6) ?hd (cs := #[.int .i64 0, .slice none 0 0]) (t := 58) ?hr ?_; (case hd => rfl); (case hg => rfl); (case hr => first | (go_simp; done) | (go_simp; rfl)); intro gb183 hg w34 hbox hb; have n0_ := aM_ (blk_below (g := gb178) (o := .cells #[.slice A0_0 l0_0.length c0_0, .slice (some ad182) l0_1.length c0_1, .int .i64 a0_2, .slice A0_3 l0_3.length c0_3, .bool a0_4] 32 (0, 0)) (by (with_reducible repeat (first | refine kN_ ?_ _ | refine kD_ ?_ | refine kA_ ?_ _)); exact BK178.out) hb); have n1_ := aM_ (bT_ (by repeat (first | (with_reducible first | exact HB.out | apply bA_ | apply bN_ | apply bD_ | refine bE_ ?_ GE178.out) | exact HB.out)) hb); have n2_ := aM_ (hbox); have n3_ := aM_ ((by rw [hg]; exact (bS_ (by repeat (first | (with_reducible first | exact HB.out | apply bA_ | apply bN_ | apply bD_ | refine bE_ ?_ GE178.out) | exact HB.out))) : w.heap.size ≤ gb183)); have n4_ := aM_ ((by rw [hg]; exact (bS_ (by repeat (first | (with_reducible first | exact HB.out | apply bA_ | apply bN_ | apply bD_ | refine bE_ ?_ GE178.out) | exact HB.out))) : w.heap.size ≤ gb183)); have n5_ := aM_ ((by rw [hg]; exact Nat.ne_of_lt (blk_lt (g := gb178) (o := .cells #[.slice A0_0 l0_0.length c0_0, .slice (some ad182) l0_1.length c0_1, .int .i64 a0_2, .slice A0_3 l0_3.length c0_3, .bool a0_4] 32 (0, 0)) (by (with_reducible repeat (first | refine kN_ ?_ _ | refine kD_ ?_ | refine kA_ ?_ _)); exact BK178.out)) : gb178 ≠ gb183)); have n6_ := aM_ ((by rw [hg]; exact Nat.ne_of_gt (blk_lt (g := gb178) (o := .cells #[.slice A0_0 l0_0.length c0_0, .slice (some ad182) l0_1.length c0_1, .int .i64 a0_2, .slice A0_3 l0_3.length c0_3, .bool a0_4] 32 (0, 0)) (by (with_reducible repeat (first | refine kN_ ?_ _ | refine kD_ ?_ | refine kA_ ?_ _)); exact BK178.out)) : gb183 ≠ gb178)); clear BK178; clear HB; have BK178 := n0_; have HB := n1_; have BK183 := n2_; have GW183 := n3_; have GE183 := n4_; have NB178_183 := n5_; have NB183_178 := n6_; clear n0_ n1_ n2_ n3_ n4_ n5_ n6_; clear hb hbox hg; have hnb35 := NB183_178.out; have hnc35 := NB178_183.out; have hcz36_0 : w34.cell? ⟨gb183, 0, none⟩ = some (.int .i64 0) := (kC_ BK183.out 0).trans rfl; have hcz36_1 : w34.cell? ⟨gb183, 1, none⟩ = some (.slice none 0 0) := (kC_ BK183.out 1).trans rfl; have hfz36_0 := kF_ BK183.out 0; have hfz36_1 := kF_ BK183.out 1; have hcz37_0 : w34.cell? ⟨gb178, 0, none⟩ = some (.slice A0_0 l0_0.length c0_0) := (kC_ BK178.out 0).trans rfl; have hcz37_1 : w34.cell? ⟨gb178, 1, none⟩ = some (.slice (some ad182) l0_1.length c0_1) := (kC_ BK178.out 1).trans rfl; have hcz37_2 : w34.cell? ⟨gb178, 2, none⟩ = some (.int .i64 a0_2) := (kC_ BK178.out 2).trans rfl; have hcz37_3 : w34.cell? ⟨gb178, 3, none⟩ = some (.slice A0_3 l0_3.length c0_3) := (kC_ BK178.out 3).trans rfl; have hcz37_4 : w34.cell? ⟨gb178, 4, none⟩ = some (.bool a0_4) := (kC_ BK178.out 4).trans rfl; have hfz37_0 := kF_ BK178.out 0; have hfz37_1 := kF_ BK178.out 1; have hfz37_2 := kF_ BK178.out 2; have hfz37_3 := kF_ BK178.out 3; have hfz37_4 := kF_ BK178.out 4) | ((with_reducible refine gate_callee (f := 62) rfl ?_); refine goesL_ (some 66) rfl rfl Try.func62 (by kernel_rfl) rfl #[.int .i64 ((rd_T58 l0_1 x56_3).f0), .int .i64 0, .int .i64 (wrap64 ((l0_0.length : Int) - 1))] rfl (by (try simp only [mA_, mC_, mN_]); first | done | rfl | (simp only [lD_, lT_]; rfl)) ?_; (with_reducible refine (impl_in.calls ((rd_T58 l0_1 x56_3).f0) 0 (wrap64 ((l0_0.length : Int) - 1)) true _ A27.out).mono ?_); rintro e w' ⟨rfl, ⟨nd, rfl⟩⟩; refine ⟨_, rfl, ?_⟩))
              go_roundg k3
              case measure => have := HJ1.out; have := HK2.out; have := HK3.out; omega
              case rel => exact ⟨(wrap64 (x56_3 + 1)), (by first | rfl | (simp; done) | (simp [*]; done)), H', ⟨by have := HJ1.out; have := HK2.out; have := HK3.out; omega⟩, ⟨by (with_reducible repeat (first | refine kN_ ?_ _ | refine kD_ ?_ | refine kA_ ?_ _)); refine blk_far ?_ NB178_183.out _; (with_reducible repeat (first | refine kN_ ?_ _ | refine kD_ ?_ | refine kA_ ?_ _)); refine blk_far ?_ NB178_183.out _; (with_reducible repeat (first | refine kN_ ?_ _ | refine kD_ ?_ | refine kA_ ?_ _)); exact BK178.out⟩, ⟨by repeat (first | (with_reducible first | exact HB.out | apply bA_ | apply bN_ | apply bD_ | refine bE_ ?_ GE178.out | refine bE_ ?_ GE183.out) | exact HB.out)⟩⟩
            ·replace c28 := Bool.eq_false_iff.mpr c28
             subst c28
             have H1 : (some false) = some r := by rw [if_neg (show ¬ (false = true) by decide)] at H; exact H
             clear H
             have H := H1
             clear H1
             obtain rfl := Option.some.inj H
             have p182 : 0 ≤ (x56_3 : Int) := oT_ (by first | (with_reducible assumption) | assumption)
             have q182 : x56_3 < (l0_1.length : Int) := oT_ (by first | (with_reducible assumption) | assumption)
             obtain ⟨ad182, A182_1, c182_1, e182, hx182_0, hx182_1, hl182_1, hi182_1⟩ := at_T58 HR0_1.out x56_3 p182 q182
             cases e182
             replace hx182_0 := (HB.out.cell (wL_ w _ hx182_0)).trans hx182_0
             replace hx182_1 := (HB.out.cell (wL_ w _ hx182_1)).trans hx182_1
             have HR182_1 := aM_ hi182_1
             have HC182_1 := aM_ hl182_1
             clear hi182_1 hl182_1
             replace p182 := eq_true p182
             replace q182 := eq_true q182
             go_wp2_with (first | ((with_reducible refine gate_dst (N := 6) rfl ?_); (try (refine gate_guard (by rfl) ?_; dsimp only)); refine box_event ?hg (N := 6) ?hd (cs := #[.int .i64 0, .slice none 0 0]) (t := 58) ?hr ?_; (case hd => rfl); (case hg => rfl); (case hr => first | (go_simp; done) | (go_simp; rfl)); intro gb183 hg w38 hbox hb; have n0_ := aM_ (blk_below (g := gb178) (o := .cells #[.slice A0_0 l0_0.length c0_0, .slice (some ad182) l0_1.length c0_1, .int .i64 a0_2, .slice A0_3 l0_3.length c0_3, .bool a0_4] 32 (0, 0)) (by (with_reducible repeat (first | refine kN_ ?_ _ | refine kD_ ?_ | refine kA_ ?_ _)); exact BK178.out) hb); have n1_ := aM_ (bT_ (by repeat (first | (with_reducible first | exact HB.out | apply bA_ | apply bN_ | apply bD_ | refine bE_ ?_ GE178.out) | exact HB.out)) hb); have n2_ := aM_ (hbox); have n3_ := aM_ ((by rw [hg]; exact (bS_ (by repeat (first | (with_reducible first | exact HB.out | apply bA_ | apply bN_ | apply bD_ | refine bE_ ?_ GE178.out) | exact HB.out))) : w.heap.size ≤ gb183)); have n4_ := aM_ ((by rw [hg]; exact (bS_ (by repeat (first | (with_reducible first | exact HB.out | apply bA_ | apply bN_ | apply bD_ | refine bE_ ?_ GE178.out) | exact HB.out))) : w.heap.size ≤ gb183)); have n5_ := aM_ ((by rw [hg]; exact Nat.ne_of_lt (blk_lt (g := gb178) (o := .cells #[.slice A0_0 l0_0.length c0_0, .slice (some ad182) l0_1.length c0_1, .int .i64 a0_2, .slice A0_3 l0_3.length c0_3, .bool a0_4] 32 (0, 0)) (by (with_reducible repeat (first | refine kN_ ?_ _ | refine kD_ ?_ | refine kA_ ?_ _)); exact BK178.out)) : gb178 ≠ gb183)); have n6_ := aM_ ((by rw [hg]; exact Nat.ne_of_gt (blk_lt (g := gb178) (o := .cells #[.slice A0_0 l0_0.length c0_0, .slice (some ad182) l0_1.length c0_1, .int .i64 a0_2, .slice A0_3 l0_3.length c0_3, .bool a0_4] 32 (0, 0)) (by (with_reducible repeat (first | refine kN_ ?_ _ | refine kD_ ?_ | refine kA_ ?_ _)); exact BK178.out)) : gb183 ≠ gb178)); clear BK178; clear HB; have BK178 := n0_; have HB := n1_; have BK183 := n2_; have GW183 := n3_; have GE183 := n4_; have NB178_183 := n5_; have NB183_178 := n6_; clear n0_ n1_ n2_ n3_ n4_ n5_ n6_; clear hb hbox hg; have hnb39 := NB183_178.out; have hnc39 := NB178_183.out; have hcz40_0 : w38.cell? ⟨gb183, 0, none⟩ = some (.int .i64 0) := (kC_ BK183.out 0).trans rfl; have hcz40_1 : w38.cell? ⟨gb183, 1, none⟩ = some (.slice none 0 0) := (kC_ BK183.out 1).trans rfl; have hfz40_0 := kF_ BK183.out 0; have hfz40_1 := kF_ BK183.out 1; have hcz41_0 : w38.cell? ⟨gb178, 0, none⟩ = some (.slice A0_0 l0_0.length c0_0) := (kC_ BK178.out 0).trans rfl; have hcz41_1 : w38.cell? ⟨gb178, 1, none⟩ = some (.slice (some ad182) l0_1.length c0_1) := (kC_ BK178.out 1).trans rfl; have hcz41_2 : w38.cell? ⟨gb178, 2, none⟩ = some (.int .i64 a0_2) := (kC_ BK178.out 2).trans rfl; have hcz41_3 : w38.cell? ⟨gb178, 3, none⟩ = some (.slice A0_3 l0_3.length c0_3) := (kC_ BK178.out 3).trans rfl; have hcz41_4 : w38.cell? ⟨gb178, 4, none⟩ = some (.bool a0_4) := (kC_ BK178.out 4).trans rfl; have hfz41_0 := kF_ BK178.out 0; have hfz41_1 := kF_ BK178.out 1; have hfz41_2 := kF_ BK178.out 2; have hfz41_3 := kF_ BK178.out 3; have hfz41_4 := kF_ BK178.out 4) | ((with_reducible refine gate_callee (f := 62) rfl ?_); refine goesL_ (some 66) rfl rfl Try.func62 (by kernel_rfl) rfl #[.int .i64 ((rd_T58 l0_1 x56_3).f0), .int .i64 0, .int .i64 (wrap64 ((l0_0.length : Int) - 1))] rfl (by (try simp only [mA_, mC_, mN_]); first | done | rfl | (simp only [lD_, lT_]; rfl)) ?_; (with_reducible refine (impl_in.calls ((rd_T58 l0_1 x56_3).f0) 0 (wrap64 ((l0_0.length : Int) - 1)) false _ A27.out).mono ?_); rintro e w' ⟨rfl, ⟨nd, rfl⟩⟩; refine ⟨_, rfl, ?_⟩))
             go_ret
             exact ⟨by first | rfl | (simp [errW_none, errW_some] <;> rfl) | (simp [*, errW_none, errW_some] <;> rfl), by repeat (first | (with_reducible first | exact HB.out | apply bA_ | apply bN_ | apply bD_ | refine bE_ ?_ GE178.out | refine bE_ ?_ GE183.out) | exact HB.out)⟩
           ·rw [if_neg c26] at H
            exact absurd H (by simp)
          ·rw [if_neg c25] at H
           exact absurd H (by simp)
         ·rw [if_neg c24] at H
          have c24b0 : decide (x56_3 < (l0_1.length : Int)) = false := decide_eq_false c24
          clear c24
          have H' := aM_ H
          clear H
          have hcz42_0 : wr.cell? ⟨gb178, 0, none⟩ = some (.slice A0_0 l0_0.length c0_0) := (kC_ BK178.out 0).trans rfl
          have hcz42_1 : wr.cell? ⟨gb178, 1, none⟩ = some (.slice A0_1 l0_1.length c0_1) := (kC_ BK178.out 1).trans rfl
          have hcz42_2 : wr.cell? ⟨gb178, 2, none⟩ = some (.int .i64 a0_2) := (kC_ BK178.out 2).trans rfl
          have hcz42_3 : wr.cell? ⟨gb178, 3, none⟩ = some (.slice A0_3 l0_3.length c0_3) := (kC_ BK178.out 3).trans rfl
          have hcz42_4 : wr.cell? ⟨gb178, 4, none⟩ = some (.bool a0_4) := (kC_ BK178.out 4).trans rfl
          have hfz42_0 := kF_ BK178.out 0
          have hfz42_1 := kF_ BK178.out 1
          have hfz42_2 := kF_ BK178.out 2
          have hfz42_3 := kF_ BK178.out 3
          have hfz42_4 := kF_ BK178.out 4
          go_wp2
          (try simp only [Act.put, sI_, sS_, sZ_])
          go_loopg [78] k3 (fun kq v78 w' => ∃ (x78_4 : Int), v78 = .int .i64 x78_4 ∧ Aside0 (impl_DiskOk.l2 kq l0_3 (l0_3.length : Int) x78_4 l0_0 l0_1 a0_2 l0_3 a0_4 = some r) ∧ Aside0 (kq ≤ k3) ∧ Aside0 (w'.heap[gb178]? = some (.cells #[(.slice A0_0 l0_0.length c0_0), (.slice A0_1 l0_1.length c0_1), .int .i64 a0_2, (.slice A0_3 l0_3.length c0_3), .bool a0_4] 32 (0, 0))) ∧ Aside0 (Below w.heap.size w w'))
          case atStart => exact ⟨(0), (by first | rfl | (simp; done) | (simp [*]; done)), H', ⟨Nat.le_refl _⟩, ⟨by (with_reducible repeat (first | refine kN_ ?_ _ | refine kD_ ?_ | refine kA_ ?_ _)); exact BK178.out⟩, ⟨by repeat (first | (with_reducible first | exact HB.out | apply bA_ | apply bN_ | apply bD_ | refine bE_ ?_ GE178.out) | exact HB.out)⟩⟩
          case round =>
           clear H'
           try clear c1
           try clear p1
           try clear q1
           try clear hx1
           try clear c2
           try clear p2
           try clear c3
           try clear c5
           try clear c6
           try clear c6b0
           try clear c6b1
           try clear p6
           try clear c9
           try clear c10
           try clear c10b0
           try clear c10b1
           try clear c12
           try clear c17
           try clear c18
           try clear p18
           try clear q18
           try clear hx18
           try clear c19
           try clear c19b0
           try clear c20
           try clear c20b0
           try clear c21
           try clear c21b0
           try clear c22
           try clear c22b0
           try clear c22b1
           try clear c24
           try clear c24b0
           try clear c25
           try clear c25b0
           try clear c26
           try clear c26b0
           try clear c28
           try clear c29
           try clear c29b0
           try clear c29b1
           try clear c31
           try clear c35
           try clear c39
           try clear hcz11_0
           try clear hcz11_1
           try clear hcz11_2
           try clear hcz11_3
           try clear hcz11_4
           try clear hcz13_0
           try clear hcz13_1
           try clear hcz13_2
           try clear hcz13_3
           try clear hcz13_4
           try clear hcz14_0
           try clear hcz14_1
           try clear hcz14_2
           try clear hcz14_3
           try clear hcz14_4
           try clear hcz15_0
           try clear hcz15_1
           try clear hcz15_2
           try clear hcz15_3
           try clear hcz15_4
           try clear hcz16_0
           try clear hcz16_1
           try clear hcz16_2
           try clear hcz16_3
           try clear hcz16_4
           try clear hcz18_0
           try clear hcz18_1
           try clear hcz18_2
           try clear hcz18_3
           try clear hcz18_4
           try clear hcz23_0
           try clear hcz23_1
           try clear hcz23_2
           try clear hcz23_3
           try clear hcz23_4
           try clear hcz32_0
           try clear hcz32_1
           try clear hcz33_0
           try clear hcz33_1
           try clear hcz33_2
           try clear hcz33_3
           try clear hcz33_4
           try clear hcz36_0
           try clear hcz36_1
           try clear hcz37_0
           try clear hcz37_1
           try clear hcz37_2
           try clear hcz37_3
           try clear hcz37_4
           try clear hcz40_0
           try clear hcz40_1
           try clear hcz41_0
           try clear hcz41_1
           try clear hcz41_2
           try clear hcz41_3
           try clear hcz41_4
           try clear hcz42_0
           try clear hcz42_1
           try clear hcz42_2
           try clear hcz42_3
           try clear hcz42_4
           try clear hcz7_0
           try clear hcz7_1
           try clear hcz7_2
           try clear hcz7_3
           try clear hcz7_4
           try clear hfz11_0
           try clear hfz11_1
           try clear hfz11_2
           try clear hfz11_3
           try clear hfz11_4
           try clear hfz13_0
           try clear hfz13_1
           try clear hfz13_2
           try clear hfz13_3
           try clear hfz13_4
           try clear hfz14_0
           try clear hfz14_1
           try clear hfz14_2
           try clear hfz14_3
           try clear hfz14_4
           try clear hfz15_0
           try clear hfz15_1
           try clear hfz15_2
           try clear hfz15_3
           try clear hfz15_4
           try clear hfz16_0
           try clear hfz16_1
           try clear hfz16_2
           try clear hfz16_3
           try clear hfz16_4
           try clear hfz18_0
           try clear hfz18_1
           try clear hfz18_2
           try clear hfz18_3
           try clear hfz18_4
           try clear hfz23_0
           try clear hfz23_1
           try clear hfz23_2
           try clear hfz23_3
           try clear hfz23_4
           try clear hfz32_0
           try clear hfz32_1
           try clear hfz33_0
           try clear hfz33_1
           try clear hfz33_2
           try clear hfz33_3
           try clear hfz33_4
           try clear hfz36_0
           try clear hfz36_1
           try clear hfz37_0
           try clear hfz37_1
           try clear hfz37_2
           try clear hfz37_3
           try clear hfz37_4
           try clear hfz40_0
           try clear hfz40_1
           try clear hfz41_0
           try clear hfz41_1
           try clear hfz41_2
           try clear hfz41_3
           try clear hfz41_4
           try clear hfz42_0
           try clear hfz42_1
           try clear hfz42_2
           try clear hfz42_3
           try clear hfz42_4
           try clear hfz7_0
           try clear hfz7_1
           try clear hfz7_2
           try clear hfz7_3
           try clear hfz7_4
           try clear hx181_0
           try clear hx182_0
           try clear hx182_1
           try clear p1
           try clear p18
           try clear p181
           try clear p182
           try clear p2
           try clear p6
           try clear q1
           try clear q18
           try clear q181
           try clear q182
           obtain ⟨x78_4, rfl, HA, HK4, BK178, HB⟩ := hrel
           cases gk with
           | zero => exact absurd HA.out (by simp [impl_DiskOk.l2])
           | succ k4 =>
            have H := HA.out
            clear HA
            simp only [impl_DiskOk.l2] at H
            by_cases c43 : x78_4 < (l0_3.length : Int)
            ·rw [if_pos c43] at H
             have c43b0 : decide (x78_4 < (l0_3.length : Int)) = true := decide_eq_true c43
             clear c43
             by_cases c44 : 0 ≤ x78_4
             ·rw [if_pos c44] at H
              have c44b0 : decide (0 ≤ x78_4) = true := decide_eq_true c44
              clear c44
              by_cases c45 : x78_4 < (l0_3.length : Int)
              ·rw [if_pos c45] at H
               have c45b0 : decide (x78_4 < (l0_3.length : Int)) = true := decide_eq_true c45
               clear c45
               replace H := oB_ H
               obtain ⟨t187, A460, H⟩ := H
               replace H : (if t187 = true then ((impl_in.f ((rd_T78 l0_3 x78_4).f1) 0 1048575).bind fun t188 => (if t188 = true then ((impl_in.f ((rd_T78 l0_3 x78_4).f2) 0 256).bind fun t189 => (if t189 = true then (if x78_4 > 0 then (if 0 ≤ (wrap64 (x78_4 - 1)) then (if (wrap64 (x78_4 - 1)) < (l0_3.length : Int) then (if ((rd_T78 l0_3 (wrap64 (x78_4 - 1))).f0) ≥ ((rd_T78 l0_3 x78_4).f0) then (some false) else (impl_DiskOk.l2 k4 l0_3 (l0_3.length : Int) (wrap64 (x78_4 + 1)) l0_0 l0_1 a0_2 l0_3 a0_4)) else (none)) else (none)) else (impl_DiskOk.l2 k4 l0_3 (l0_3.length : Int) (wrap64 (x78_4 + 1)) l0_0 l0_1 a0_2 l0_3 a0_4)) else (some false))) else (some false))) else (some false)) = some r := H
               have A46 := aM_ A460
               clear A460
               by_cases c47 : t187 = true
               ·subst c47
                have H1 : ((impl_in.f ((rd_T78 l0_3 x78_4).f1) 0 1048575).bind fun t188 => (if t188 = true then ((impl_in.f ((rd_T78 l0_3 x78_4).f2) 0 256).bind fun t189 => (if t189 = true then (if x78_4 > 0 then (if 0 ≤ (wrap64 (x78_4 - 1)) then (if (wrap64 (x78_4 - 1)) < (l0_3.length : Int) then (if ((rd_T78 l0_3 (wrap64 (x78_4 - 1))).f0) ≥ ((rd_T78 l0_3 x78_4).f0) then (some false) else (impl_DiskOk.l2 k4 l0_3 (l0_3.length : Int) (wrap64 (x78_4 + 1)) l0_0 l0_1 a0_2 l0_3 a0_4)) else (none)) else (none)) else (impl_DiskOk.l2 k4 l0_3 (l0_3.length : Int) (wrap64 (x78_4 + 1)) l0_0 l0_1 a0_2 l0_3 a0_4)) else (some false))) else (some false))) = some r := by rw [if_pos rfl] at H; exact H
                clear H
                have H := H1
                clear H1
                replace H := oB_ H
                obtain ⟨t188, A480, H⟩ := H
                replace H : (if t188 = true then ((impl_in.f ((rd_T78 l0_3 x78_4).f2) 0 256).bind fun t189 => (if t189 = true then (if x78_4 > 0 then (if 0 ≤ (wrap64 (x78_4 - 1)) then (if (wrap64 (x78_4 - 1)) < (l0_3.length : Int) then (if ((rd_T78 l0_3 (wrap64 (x78_4 - 1))).f0) ≥ ((rd_T78 l0_3 x78_4).f0) then (some false) else (impl_DiskOk.l2 k4 l0_3 (l0_3.length : Int) (wrap64 (x78_4 + 1)) l0_0 l0_1 a0_2 l0_3 a0_4)) else (none)) else (none)) else (impl_DiskOk.l2 k4 l0_3 (l0_3.length : Int) (wrap64 (x78_4 + 1)) l0_0 l0_1 a0_2 l0_3 a0_4)) else (some false))) else (some false)) = some r := H
                have A48 := aM_ A480
                clear A480
                by_cases c49 : t188 = true
                ·subst c49
                 have H1 : ((impl_in.f ((rd_T78 l0_3 x78_4).f2) 0 256).bind fun t189 => (if t189 = true then (if x78_4 > 0 then (if 0 ≤ (wrap64 (x78_4 - 1)) then (if (wrap64 (x78_4 - 1)) < (l0_3.length : Int) then (if ((rd_T78 l0_3 (wrap64 (x78_4 - 1))).f0) ≥ ((rd_T78 l0_3 x78_4).f0) then (some false) else (impl_DiskOk.l2 k4 l0_3 (l0_3.length : Int) (wrap64 (x78_4 + 1)) l0_0 l0_1 a0_2 l0_3 a0_4)) else (none)) else (none)) else (impl_DiskOk.l2 k4 l0_3 (l0_3.length : Int) (wrap64 (x78_4 + 1)) l0_0 l0_1 a0_2 l0_3 a0_4)) else (some false))) = some r := by rw [if_pos rfl] at H; exact H
                 clear H
                 have H := H1
                 clear H1
                 replace H := oB_ H
                 obtain ⟨t189, A500, H⟩ := H
                 replace H : (if t189 = true then (if x78_4 > 0 then (if 0 ≤ (wrap64 (x78_4 - 1)) then (if (wrap64 (x78_4 - 1)) < (l0_3.length : Int) then (if ((rd_T78 l0_3 (wrap64 (x78_4 - 1))).f0) ≥ ((rd_T78 l0_3 x78_4).f0) then (some false) else (impl_DiskOk.l2 k4 l0_3 (l0_3.length : Int) (wrap64 (x78_4 + 1)) l0_0 l0_1 a0_2 l0_3 a0_4)) else (none)) else (none)) else (impl_DiskOk.l2 k4 l0_3 (l0_3.length : Int) (wrap64 (x78_4 + 1)) l0_0 l0_1 a0_2 l0_3 a0_4)) else (some false)) = some r := H
                 have A50 := aM_ A500
                 clear A500
                 by_cases c51 : t189 = true
                 ·subst c51
                  have H1 : (if x78_4 > 0 then (if 0 ≤ (wrap64 (x78_4 - 1)) then (if (wrap64 (x78_4 - 1)) < (l0_3.length : Int) then (if ((rd_T78 l0_3 (wrap64 (x78_4 - 1))).f0) ≥ ((rd_T78 l0_3 x78_4).f0) then (some false) else (impl_DiskOk.l2 k4 l0_3 (l0_3.length : Int) (wrap64 (x78_4 + 1)) l0_0 l0_1 a0_2 l0_3 a0_4)) else (none)) else (none)) else (impl_DiskOk.l2 k4 l0_3 (l0_3.length : Int) (wrap64 (x78_4 + 1)) l0_0 l0_1 a0_2 l0_3 a0_4)) = some r := by rw [if_pos rfl] at H; exact H
                  clear H
                  have H := H1
                  clear H1
                  by_cases c52 : x78_4 > 0
                  ·rw [if_pos c52] at H
                   have c52b0 : decide (0 < x78_4) = true := decide_eq_true c52
                   clear c52
                   obtain ⟨ji53, hji53⟩ : ∃ j_ : Int, (wrap64 (x78_4 - 1)) = j_ := ⟨_, rfl⟩
                   replace H : (if 0 ≤ (ji53) then (if (ji53) < (l0_3.length : Int) then (if ((rd_T78 l0_3 (ji53)).f0) ≥ ((rd_T78 l0_3 x78_4).f0) then (some false) else (impl_DiskOk.l2 k4 l0_3 (l0_3.length : Int) (wrap64 (x78_4 + 1)) l0_0 l0_1 a0_2 l0_3 a0_4)) else (none)) else (none)) = some r := by first | (rw [hji53] at H; exact H) | (simp only [hji53] at H ⊢; exact H)
                   (try rw [hji53] at A46)
                   (try rw [hji53] at A48)
                   (try rw [hji53] at A50)
                   have hji53w : (IntKind.i64.wrap (x78_4 - 1)) = ji53 := (i64_w _).trans hji53
                   by_cases c54 : 0 ≤ (ji53)
                   ·rw [if_pos c54] at H
                    have c54b0 : decide (0 ≤ (ji53)) = true := decide_eq_true c54
                    clear c54
                    by_cases c55 : (ji53) < (l0_3.length : Int)
                    ·rw [if_pos c55] at H
                     have c55b0 : decide ((ji53) < (l0_3.length : Int)) = true := decide_eq_true c55
                     clear c55
                     by_cases c56 : ((rd_T78 l0_3 (ji53)).f0) ≥ ((rd_T78 l0_3 x78_4).f0)
                     ·rw [if_pos c56] at H
                      have c56b0 : decide (((rd_T78 l0_3 x78_4).f0) ≤ ((rd_T78 l0_3 (ji53)).f0)) = true := decide_eq_true c56
                      clear c56
                      obtain rfl := Option.some.inj H
                      have p185 : 0 ≤ (x78_4 : Int) := oT_ (by first | (with_reducible assumption) | assumption)
                      have q185 : x78_4 < (l0_3.length : Int) := oT_ (by first | (with_reducible assumption) | assumption)
                      obtain ⟨ad185, e185, hx185_0, hx185_1, hx185_2⟩ := at_T78 HR0_3.out x78_4 p185 q185
                      cases e185
                      replace hx185_0 := (HB.out.cell (wL_ w _ hx185_0)).trans hx185_0
                      replace hx185_1 := (HB.out.cell (wL_ w _ hx185_1)).trans hx185_1
                      replace hx185_2 := (HB.out.cell (wL_ w _ hx185_2)).trans hx185_2
                      replace p185 := eq_true p185
                      replace q185 := eq_true q185
                      try go_wp2_with (first | ((with_reducible refine gate_dst (N := 8) rfl ?_); (try (refine gate_guard (by rfl) ?_; dsimp only)); refine box_event ?hg (N := 8) ?hd (cs := #[.int .i64 0, .int .i64 0, .int .i64 0]) (t := 78) ?hr ?_; (case hd => rfl); (case hg => rfl); (case hr => first | (go_simp; done) | (go_simp; rfl)); intro gb186 hg w57 hbox hb; have n0_ := aM_ (blk_below (g := gb178) (o := .cells #[.slice A0_0 l0_0.length c0_0, .slice A0_1 l0_1.length c0_1, .int .i64 a0_2, .slice (some ad185) l0_3.length c0_3, .bool a0_4] 32 (0, 0)) (by (with_reducible repeat (first | refine kN_ ?_ _ | refine kD_ ?_ | refine kA_ ?_ _)); exact BK178.out) hb); have n1_ := aM_ (bT_ (by repeat (first | (with_reducible first | exact HB.out | apply bA_ | apply bN_ | apply bD_ | refine bE_ ?_ GE178.out) | exact HB.out)) hb); have n2_ := aM_ (hbox); have n3_ := aM_ ((by rw [hg]; exact (bS_ (by repeat (first | (with_reducible first | exact HB.out | apply bA_ | apply bN_ | apply bD_ | refine bE_ ?_ GE178.out) | exact HB.out))) : w.heap.size ≤ gb186)); have n4_ := aM_ ((by rw [hg]; exact (bS_ (by repeat (first | (with_reducible first | exact HB.out | apply bA_ | apply bN_ | apply bD_ | refine bE_ ?_ GE178.out) | exact HB.out))) : w.heap.size ≤ gb186)); have n5_ := aM_ ((by rw [hg]; exact Nat.ne_of_lt (blk_lt (g := gb178) (o := .cells #[.slice A0_0 l0_0.length c0_0, .slice A0_1 l0_1.length c0_1, .int .i64 a0_2, .slice (some ad185) l0_3.length c0_3, .bool a0_4] 32 (0, 0)) (by (with_reducible repeat (first | refine kN_ ?_ _ | refine kD_ ?_ | refine kA_ ?_ _)); exact BK178.out)) : gb178 ≠ gb186)); have n6_ := aM_ ((by rw [hg]; exact Nat.ne_of_gt (blk_lt (g := gb178) (o := .cells #[.slice A0_0 l0_0.length c0_0, .slice A0_1 l0_1.length c0_1, .int .i64 a0_2, .slice (some ad185) l0_3.length c0_3, .bool a0_4] 32 (0, 0)) (by (with_reducible repeat (first | refine kN_ ?_ _ | refine kD_ ?_ | refine kA_ ?_ _)); exact BK178.out)) : gb186 ≠ gb178)); clear BK178; clear HB; have BK178 := n0_; have HB := n1_; have BK186 := n2_; have GW186 := n3_; have GE186 := n4_; have NB178_186 := n5_; have NB186_178 := n6_; clear n0_ n1_ n2_ n3_ n4_ n5_ n6_; clear hb hbox hg; have hnb58 := NB186_178.out; have hnc58 := NB178_186.out; have hcz59_0 : w57.cell? ⟨gb186, 0, none⟩ = some (.int .i64 0) := (kC_ BK186.out 0).trans rfl; have hcz59_1 : w57.cell? ⟨gb186, 1, none⟩ = some (.int .i64 0) := (kC_ BK186.out 1).trans rfl; have hcz59_2 : w57.cell? ⟨gb186, 2, none⟩ = some (.int .i64 0) := (kC_ BK186.out 2).trans rfl; have hfz59_0 := kF_ BK186.out 0; have hfz59_1 := kF_ BK186.out 1; have hfz59_2 := kF_ BK186.out 2))
                      have n0_ : Aside0 ((((w57.setCell ⟨gb186, 0, none⟩ (.int .i64 ((rd_T78 l0_3 x78_4).f0))).setCell ⟨gb186, 1, none⟩ (.int .i64 ((rd_T78 l0_3 x78_4).f1))).setCell ⟨gb186, 2, none⟩ (.int .i64 ((rd_T78 l0_3 x78_4).f2))).heap[gb178]? = some (.cells #[.slice A0_0 l0_0.length c0_0, .slice A0_1 l0_1.length c0_1, .int .i64 a0_2, .slice (some ad185) l0_3.length c0_3, .bool a0_4] 32 (0, 0))) := ⟨by (with_reducible repeat (first | refine kN_ ?_ _ | refine kD_ ?_ | refine kA_ ?_ _)); refine blk_far ?_ NB178_186.out _; (with_reducible repeat (first | refine kN_ ?_ _ | refine kD_ ?_ | refine kA_ ?_ _)); refine blk_far ?_ NB178_186.out _; (with_reducible repeat (first | refine kN_ ?_ _ | refine kD_ ?_ | refine kA_ ?_ _)); refine blk_far ?_ NB178_186.out _; (with_reducible repeat (first | refine kN_ ?_ _ | refine kD_ ?_ | refine kA_ ?_ _)); exact BK178.out⟩
                      have n1_ : Aside0 ((((w57.setCell ⟨gb186, 0, none⟩ (.int .i64 ((rd_T78 l0_3 x78_4).f0))).setCell ⟨gb186, 1, none⟩ (.int .i64 ((rd_T78 l0_3 x78_4).f1))).setCell ⟨gb186, 2, none⟩ (.int .i64 ((rd_T78 l0_3 x78_4).f2))).heap[gb186]? = some (.cells #[.int .i64 ((rd_T78 l0_3 x78_4).f0), .int .i64 ((rd_T78 l0_3 x78_4).f1), .int .i64 ((rd_T78 l0_3 x78_4).f2)] 78 (0, 0))) := ⟨by (with_reducible repeat (first | refine kN_ ?_ _ | refine kD_ ?_ | refine kA_ ?_ _)); refine kP_ (cs := #[.int .i64 ((rd_T78 l0_3 x78_4).f0), .int .i64 ((rd_T78 l0_3 x78_4).f1), .int .i64 0]) ?_ 2 _ rfl; (with_reducible repeat (first | refine kN_ ?_ _ | refine kD_ ?_ | refine kA_ ?_ _)); refine kP_ (cs := #[.int .i64 ((rd_T78 l0_3 x78_4).f0), .int .i64 0, .int .i64 0]) ?_ 1 _ rfl; (with_reducible repeat (first | refine kN_ ?_ _ | refine kD_ ?_ | refine kA_ ?_ _)); refine kP_ (cs := #[.int .i64 0, .int .i64 0, .int .i64 0]) ?_ 0 _ rfl; (with_reducible repeat (first | refine kN_ ?_ _ | refine kD_ ?_ | refine kA_ ?_ _)); exact BK186.out⟩
                      have n2_ : Aside0 (Below w.heap.size w (((w57.setCell ⟨gb186, 0, none⟩ (.int .i64 ((rd_T78 l0_3 x78_4).f0))).setCell ⟨gb186, 1, none⟩ (.int .i64 ((rd_T78 l0_3 x78_4).f1))).setCell ⟨gb186, 2, none⟩ (.int .i64 ((rd_T78 l0_3 x78_4).f2)))) := ⟨by repeat (first | (with_reducible first | exact HB.out | apply bA_ | apply bN_ | apply bD_ | refine bE_ ?_ GE178.out | refine bE_ ?_ GE186.out) | exact HB.out)⟩
                      (try clear BK178)
                      (try clear BK186)
                      (try clear HB)
                      generalize (((w57.setCell ⟨gb186, 0, none⟩ (.int .i64 ((rd_T78 l0_3 x78_4).f0))).setCell ⟨gb186, 1, none⟩ (.int .i64 ((rd_T78 l0_3 x78_4).f1))).setCell ⟨gb186, 2, none⟩ (.int .i64 ((rd_T78 l0_3 x78_4).f2))) = w60 at n0_ n1_ n2_ ⊢
                      have BK178 := n0_
                      have BK186 := n1_
                      have HB := n2_
                      clear n0_ n1_ n2_
                      have n0_ := aM_ (kD_ BK178.out)
                      have n1_ := aM_ (kD_ BK186.out)
                      have n2_ := aM_ (bD_ HB.out)
                      clear BK178
                      clear BK186
                      clear HB
                      have BK178 := n0_
                      have BK186 := n1_
                      have HB := n2_
                      clear n0_ n1_ n2_
                      have p190 : 0 ≤ ((ji53) : Int) := oT_ (by first | (with_reducible assumption) | assumption)
                      have q190 : (ji53) < (l0_3.length : Int) := oT_ (by first | (with_reducible assumption) | assumption)
                      obtain ⟨ad190, e190, hx190_0, hx190_1, hx190_2⟩ := at_T78 HR0_3.out (ji53) p190 q190
                      have hw190_2 := hx190_2
                      have hw190_1 := hx190_1
                      have hw190_0 := hx190_0
                      obtain rfl : ad185 = ad190 := (by injection e190)
                      replace hx190_0 := (HB.out.cell (wL_ w _ hx190_0)).trans hx190_0
                      replace hx190_1 := (HB.out.cell (wL_ w _ hx190_1)).trans hx190_1
                      replace hx190_2 := (HB.out.cell (wL_ w _ hx190_2)).trans hx190_2
                      replace p190 := eq_true p190
                      replace q190 := eq_true q190
                      refine start_ (n := 32) (S := fun w' => w'.cell? ⟨gb186, 0, none⟩ = some (.int .i64 ((rd_T78 l0_3 x78_4).f0)) ∧ w'.cell? ⟨gb186, 1, none⟩ = some (.int .i64 ((rd_T78 l0_3 x78_4).f1)) ∧ w'.cell? ⟨gb186, 2, none⟩ = some (.int .i64 ((rd_T78 l0_3 x78_4).f2)) ∧ w'.cell? ⟨gb178, 0, none⟩ = some (.slice A0_0 l0_0.length c0_0) ∧ w'.cell? ⟨gb178, 1, none⟩ = some (.slice A0_1 l0_1.length c0_1) ∧ w'.cell? ⟨gb178, 2, none⟩ = some (.int .i64 a0_2) ∧ w'.cell? ⟨gb178, 3, none⟩ = some (.slice (some ad185) l0_3.length c0_3) ∧ w'.cell? ⟨gb178, 4, none⟩ = some (.bool a0_4) ∧ w'.cell? (ad185.add (((ji53)).toNat * 3)) = some (.int .i64 ((rd_T78 l0_3 (ji53)).f0)) ∧ w'.cell? ⟨(ad185.add (((ji53)).toNat * 3)).block, (ad185.add (((ji53)).toNat * 3)).off + 1, none⟩ = some (.int .i64 ((rd_T78 l0_3 (ji53)).f1)) ∧ w'.cell? ⟨(ad185.add (((ji53)).toNat * 3)).block, (ad185.add (((ji53)).toNat * 3)).off + 2, none⟩ = some (.int .i64 ((rd_T78 l0_3 (ji53)).f2))) (ds := []) #[false, false, false, false, false, false, false, false, false, false, false, false, false, false, false, false, false, false, false, false, false, false, false, false, false, false, false, false, false, false, false, false] (by kernel_rfl) rfl rfl ⟨(kC_ BK186.out 0).trans rfl, (kC_ BK186.out 1).trans rfl, (kC_ BK186.out 2).trans rfl, (kC_ BK178.out 0).trans rfl, (kC_ BK178.out 1).trans rfl, (kC_ BK178.out 2).trans rfl, (kC_ BK178.out 3).trans rfl, (kC_ BK178.out 4).trans rfl, ((HB.out.cell (wL_ w _ hw190_0)).trans hw190_0), ((HB.out.cell (wL_ w _ hw190_1)).trans hw190_1), ((HB.out.cell (wL_ w _ hw190_2)).trans hw190_2)⟩ (fun hHeld => ?_); refine with_tabW impl_DiskOk.tab18 impl_DiskOk.bits18 (fun HT_ HW_ => ?_)
                      generalize w60.drew = w61 at BK178 BK186 HB hx190_0 hx190_1 hx190_2 hHeld ⊢
                      refine pure_ (i := 0) (N := some 83) (v := ?_) (a' := ?_) #[true, false, false, false, false, false, false, false, false, false, false, false, false, false, false, false, false, false, false, false, false, false, false, false, false, false, false, false, false, false, false, false] rfl rfl (any_of HT_.out (by kernel_rfl)) (fun _ _ _ h => h) (Or.inl ⟨by rfl, ?_⟩) ?_ ?_
                      rotate_left
                      ·intro w'
                       go_simp
                       with_reducible rfl
                      rotate_left
                      ·simp only [Act.put, sI_, sZ_, sS_, i64_w, i32_w]
                       rfl
                      refine take_ (i := 1) (N := some 84) (v := ?_) (a' := ?_) #[true, true, false, false, false, false, false, false, false, false, false, false, false, false, false, false, false, false, false, false, false, false, false, false, false, false, false, false, false, false, false, false] rfl rfl (take_ofW HT_.out HW_.out (by kernel_rfl)) (fun _ _ _ h => h) (Or.inl ⟨by rfl, ?_⟩) hHeld ?_ ?_
                      rotate_left
                      ·rintro w' ⟨s0, s1, s2, s3, s4, s5, s6, s7, s8, s9, s10⟩
                       go_simp
                       with_reducible rfl
                      rotate_left
                      ·simp only [Act.put, sI_, sZ_, sS_, i64_w, i32_w]
                       rfl
                      refine one_ (i := 2) (N := some 85) #[true, true, true, false, false, false, false, false, false, false, false, false, false, false, false, false, false, false, false, false, false, false, false, false, false, false, false, false, false, false, false, false] rfl rfl (one_of HT_.out (by kernel_rfl)) (by decide) (fun K hK => ?_)
                      refine goes_ Try.func62 (by kernel_rfl) rfl #[.int .i64 ((rd_T78 l0_3 x78_4).f0), .int .i64 0, .int .i64 100000] (by rfl) rfl rfl (by (try simp only [mA_, mC_, mN_]); first | done | rfl | (simp only [lD_, lT_]; rfl)) ?_
                      with_reducible refine (impl_in.calls ((rd_T78 l0_3 x78_4).f0) 0 100000 true _ A46.out).mono ?_
                      rintro e w' ⟨rfl, ⟨nd, rfl⟩⟩
                      refine ⟨_, rfl, ?_⟩
                      refine hK.out _ _ ⟨(kC_ BK186.out 0).trans rfl, (kC_ BK186.out 1).trans rfl, (kC_ BK186.out 2).trans rfl, (kC_ BK178.out 0).trans rfl, (kC_ BK178.out 1).trans rfl, (kC_ BK178.out 2).trans rfl, (kC_ BK178.out 3).trans rfl, (kC_ BK178.out 4).trans rfl, ((HB.out.cell (wL_ w _ hw190_0)).trans hw190_0), ((HB.out.cell (wL_ w _ hw190_1)).trans hw190_1), ((HB.out.cell (wL_ w _ hw190_2)).trans hw190_2)⟩ (fun hHeld => ?_)
                      clear hK K
                      refine norm_ (a' := ?_) ?_ ?_
                      rotate_left
                      ·show Act.put _ (some 85) _ = _
                       simp only [Act.put, sI_, sZ_, sS_, i64_w, i32_w]
                       rfl
                      refine pure_ (i := 3) (N := some 86) (v := ?_) (a' := ?_) #[true, true, true, true, false, false, false, false, false, false, false, false, false, false, false, false, false, false, false, false, false, false, false, false, false, false, false, false, false, false, false, false] rfl rfl (any_of HT_.out (by kernel_rfl)) (fun _ _ _ h => h) (Or.inl ⟨by rfl, ?_⟩) ?_ ?_
                      rotate_left
                      ·intro w'
                       go_simp
                       with_reducible rfl
                      rotate_left
                      ·simp only [Act.put, sI_, sZ_, sS_, i64_w, i32_w]
                       rfl
                      refine pure_ (i := 4) (N := some 87) (v := ?_) (a' := ?_) #[true, true, true, true, true, false, false, false, false, false, false, false, false, false, false, false, false, false, false, false, false, false, false, false, false, false, false, false, false, false, false, false] rfl rfl (any_of HT_.out (by kernel_rfl)) (fun _ _ _ h => h) (Or.inl ⟨by rfl, ?_⟩) ?_ ?_
                      rotate_left
                      ·intro w'
                       go_simp
                       with_reducible rfl
                      rotate_left
                      ·simp only [Act.put, sI_, sZ_, sS_, i64_w, i32_w]
                       rfl
                      refine pure_ (i := 5) (N := some 88) (v := ?_) (a' := ?_) #[true, true, true, true, true, true, false, false, false, false, false, false, false, false, false, false, false, false, false, false, false, false, false, false, false, false, false, false, false, false, false, false] rfl rfl (any_of HT_.out (by kernel_rfl)) (fun _ _ _ h => h) (Or.inl ⟨by rfl, ?_⟩) ?_ ?_
                      rotate_left
                      ·intro w'
                       go_simp
                       with_reducible rfl
                      rotate_left
                      ·simp only [Act.put, sI_, sZ_, sS_, i64_w, i32_w]
                       rfl
                      refine take_ (i := 6) (N := some 89) (v := ?_) (a' := ?_) #[true, true, true, true, true, true, true, false, false, false, false, false, false, false, false, false, false, false, false, false, false, false, false, false, false, false, false, false, false, false, false, false] rfl rfl (take_ofW HT_.out HW_.out (by kernel_rfl)) (fun _ _ _ h => h) (Or.inl ⟨by rfl, ?_⟩) hHeld ?_ ?_
                      rotate_left
                      ·rintro w' ⟨s0, s1, s2, s3, s4, s5, s6, s7, s8, s9, s10⟩
                       go_simp
                       with_reducible rfl
                      rotate_left
                      ·simp only [Act.put, sI_, sZ_, sS_, i64_w, i32_w]
                       rfl
                      refine one_ (i := 7) (N := some 90) #[true, true, true, true, true, true, true, true, false, false, false, false, false, false, false, false, false, false, false, false, false, false, false, false, false, false, false, false, false, false, false, false] rfl rfl (one_of HT_.out (by kernel_rfl)) (by decide) (fun K hK => ?_)
                      refine goes_ Try.func62 (by kernel_rfl) rfl #[.int .i64 ((rd_T78 l0_3 x78_4).f1), .int .i64 0, .int .i64 1048575] (by rfl) rfl rfl (by (try simp only [mA_, mC_, mN_]); first | done | rfl | (simp only [lD_, lT_]; rfl)) ?_
                      with_reducible refine (impl_in.calls ((rd_T78 l0_3 x78_4).f1) 0 1048575 true _ A48.out).mono ?_
                      rintro e w' ⟨rfl, ⟨nd, rfl⟩⟩
                      refine ⟨_, rfl, ?_⟩
                      refine hK.out _ _ ⟨(kC_ BK186.out 0).trans rfl, (kC_ BK186.out 1).trans rfl, (kC_ BK186.out 2).trans rfl, (kC_ BK178.out 0).trans rfl, (kC_ BK178.out 1).trans rfl, (kC_ BK178.out 2).trans rfl, (kC_ BK178.out 3).trans rfl, (kC_ BK178.out 4).trans rfl, ((HB.out.cell (wL_ w _ hw190_0)).trans hw190_0), ((HB.out.cell (wL_ w _ hw190_1)).trans hw190_1), ((HB.out.cell (wL_ w _ hw190_2)).trans hw190_2)⟩ (fun hHeld => ?_)
                      clear hK K
                      refine norm_ (a' := ?_) ?_ ?_
                      rotate_left
                      ·show Act.put _ (some 90) _ = _
                       simp only [Act.put, sI_, sZ_, sS_, i64_w, i32_w]
                       rfl
                      refine pure_ (i := 8) (N := some 91) (v := ?_) (a' := ?_) #[true, true, true, true, true, true, true, true, true, false, false, false, false, false, false, false, false, false, false, false, false, false, false, false, false, false, false, false, false, false, false, false] rfl rfl (any_of HT_.out (by kernel_rfl)) (fun _ _ _ h => h) (Or.inl ⟨by rfl, ?_⟩) ?_ ?_
                      rotate_left
                      ·intro w'
                       go_simp
                       with_reducible rfl
                      rotate_left
                      ·simp only [Act.put, sI_, sZ_, sS_, i64_w, i32_w]
                       rfl
                      refine pure_ (i := 9) (N := some 92) (v := ?_) (a' := ?_) #[true, true, true, true, true, true, true, true, true, true, false, false, false, false, false, false, false, false, false, false, false, false, false, false, false, false, false, false, false, false, false, false] rfl rfl (any_of HT_.out (by kernel_rfl)) (fun _ _ _ h => h) (Or.inl ⟨by rfl, ?_⟩) ?_ ?_
                      rotate_left
                      ·intro w'
                       go_simp
                       with_reducible rfl
                      rotate_left
                      ·simp only [Act.put, sI_, sZ_, sS_, i64_w, i32_w]
                       rfl
                      refine pure_ (i := 10) (N := some 93) (v := ?_) (a' := ?_) #[true, true, true, true, true, true, true, true, true, true, true, false, false, false, false, false, false, false, false, false, false, false, false, false, false, false, false, false, false, false, false, false] rfl rfl (any_of HT_.out (by kernel_rfl)) (fun _ _ _ h => h) (Or.inl ⟨by rfl, ?_⟩) ?_ ?_
                      rotate_left
                      ·intro w'
                       go_simp
                       with_reducible rfl
                      rotate_left
                      ·simp only [Act.put, sI_, sZ_, sS_, i64_w, i32_w]
                       rfl
                      refine pure_ (i := 11) (N := some 94) (v := ?_) (a' := ?_) #[true, true, true, true, true, true, true, true, true, true, true, true, false, false, false, false, false, false, false, false, false, false, false, false, false, false, false, false, false, false, false, false] rfl rfl (any_of HT_.out (by kernel_rfl)) (fun _ _ _ h => h) (Or.inl ⟨by rfl, ?_⟩) ?_ ?_
                      rotate_left
                      ·intro w'
                       go_simp
                       with_reducible rfl
                      rotate_left
                      ·simp only [Act.put, sI_, sZ_, sS_, i64_w, i32_w]
                       rfl
                      refine take_ (i := 12) (N := some 95) (v := ?_) (a' := ?_) #[true, true, true, true, true, true, true, true, true, true, true, true, true, false, false, false, false, false, false, false, false, false, false, false, false, false, false, false, false, false, false, false] rfl rfl (take_ofW HT_.out HW_.out (by kernel_rfl)) (fun _ _ _ h => h) (Or.inl ⟨by rfl, ?_⟩) hHeld ?_ ?_
                      rotate_left
                      ·rintro w' ⟨s0, s1, s2, s3, s4, s5, s6, s7, s8, s9, s10⟩
                       go_simp
                       with_reducible rfl
                      rotate_left
                      ·simp only [Act.put, sI_, sZ_, sS_, i64_w, i32_w]
                       rfl
                      refine one_ (i := 13) (N := some 96) #[true, true, true, true, true, true, true, true, true, true, true, true, true, true, false, false, false, false, false, false, false, false, false, false, false, false, false, false, false, false, false, false] rfl rfl (one_of HT_.out (by kernel_rfl)) (by decide) (fun K hK => ?_)
                      refine goes_ Try.func62 (by kernel_rfl) rfl #[.int .i64 ((rd_T78 l0_3 x78_4).f2), .int .i64 0, .int .i64 256] (by rfl) rfl rfl (by (try simp only [mA_, mC_, mN_]); first | done | rfl | (simp only [lD_, lT_]; rfl)) ?_
                      with_reducible refine (impl_in.calls ((rd_T78 l0_3 x78_4).f2) 0 256 true _ A50.out).mono ?_
                      rintro e w' ⟨rfl, ⟨nd, rfl⟩⟩
                      refine ⟨_, rfl, ?_⟩
                      refine hK.out _ _ ⟨(kC_ BK186.out 0).trans rfl, (kC_ BK186.out 1).trans rfl, (kC_ BK186.out 2).trans rfl, (kC_ BK178.out 0).trans rfl, (kC_ BK178.out 1).trans rfl, (kC_ BK178.out 2).trans rfl, (kC_ BK178.out 3).trans rfl, (kC_ BK178.out 4).trans rfl, ((HB.out.cell (wL_ w _ hw190_0)).trans hw190_0), ((HB.out.cell (wL_ w _ hw190_1)).trans hw190_1), ((HB.out.cell (wL_ w _ hw190_2)).trans hw190_2)⟩ (fun hHeld => ?_)
                      clear hK K
                      refine norm_ (a' := ?_) ?_ ?_
                      rotate_left
                      ·show Act.put _ (some 96) _ = _
                       simp only [Act.put, sI_, sZ_, sS_, i64_w, i32_w]
                       rfl
                      refine pure_ (i := 14) (N := some 97) (v := ?_) (a' := ?_) #[true, true, true, true, true, true, true, true, true, true, true, true, true, true, true, false, false, false, false, false, false, false, false, false, false, false, false, false, false, false, false, false] rfl rfl (any_of HT_.out (by kernel_rfl)) (fun _ _ _ h => h) (Or.inl ⟨by rfl, ?_⟩) ?_ ?_
                      rotate_left
                      ·intro w'
                       go_simp
                       with_reducible rfl
                      rotate_left
                      ·simp only [Act.put, sI_, sZ_, sS_, i64_w, i32_w]
                       rfl
                      refine pure_ (i := 15) (N := some 98) (v := ?_) (a' := ?_) #[true, true, true, true, true, true, true, true, true, true, true, true, true, true, true, true, false, false, false, false, false, false, false, false, false, false, false, false, false, false, false, false] rfl rfl (any_of HT_.out (by kernel_rfl)) (fun _ _ _ h => h) (Or.inl ⟨by rfl, ?_⟩) ?_ ?_
                      rotate_left
                      ·intro w'
                       go_simp
                       with_reducible rfl
                      rotate_left
                      ·simp only [Act.put, sI_, sZ_, sS_, i64_w, i32_w]
                       rfl
                      refine pure_ (i := 16) (N := some 99) (v := ?_) (a' := ?_) #[true, true, true, true, true, true, true, true, true, true, true, true, true, true, true, true, true, false, false, false, false, false, false, false, false, false, false, false, false, false, false, false] rfl rfl (any_of HT_.out (by kernel_rfl)) (fun _ _ _ h => h) (Or.inl ⟨by rfl, ?_⟩) ?_ ?_
                      rotate_left
                      ·intro w'
                       go_simp
                       with_reducible rfl
                      rotate_left
                      ·simp only [Act.put, sI_, sZ_, sS_, i64_w, i32_w]
                       rfl
                      refine pure_ (i := 17) (N := some 100) (v := ?_) (a' := ?_) #[true, true, true, true, true, true, true, true, true, true, true, true, true, true, true, true, true, true, false, false, false, false, false, false, false, false, false, false, false, false, false, false] rfl rfl (any_of HT_.out (by kernel_rfl)) (fun _ _ _ h => h) (Or.inl ⟨by rfl, ?_⟩) ?_ ?_
                      rotate_left
                      ·intro w'
                       go_simp
                       with_reducible rfl
                      rotate_left
                      ·simp only [Act.put, sI_, sZ_, sS_, i64_w, i32_w]
                       rfl
                      refine pure_ (i := 18) (N := some 101) (v := ?_) (a' := ?_) #[true, true, true, true, true, true, true, true, true, true, true, true, true, true, true, true, true, true, true, false, false, false, false, false, false, false, false, false, false, false, false, false] rfl rfl (any_of HT_.out (by kernel_rfl)) (fun _ _ _ h => h) (Or.inl ⟨by rfl, ?_⟩) ?_ ?_
                      rotate_left
                      ·intro w'
                       go_simp
                       with_reducible rfl
                      rotate_left
                      ·simp only [Act.put, sI_, sZ_, sS_, i64_w, i32_w]
                       rfl
                      refine pure_ (i := 19) (N := some 102) (v := ?_) (a' := ?_) #[true, true, true, true, true, true, true, true, true, true, true, true, true, true, true, true, true, true, true, true, false, false, false, false, false, false, false, false, false, false, false, false] rfl rfl (any_of HT_.out (by kernel_rfl)) (fun _ _ _ h => h) (Or.inl ⟨by rfl, ?_⟩) ?_ ?_
                      rotate_left
                      ·intro w'
                       go_simp
                       with_reducible rfl
                      rotate_left
                      ·simp only [Act.put, sI_, sZ_, sS_, i64_w, i32_w]
                       rfl
                      refine pure_ (i := 20) (N := some 103) (v := ?_) (a' := ?_) #[true, true, true, true, true, true, true, true, true, true, true, true, true, true, true, true, true, true, true, true, true, false, false, false, false, false, false, false, false, false, false, false] rfl rfl (any_of HT_.out (by kernel_rfl)) (fun _ _ _ h => h) (Or.inl ⟨by rfl, ?_⟩) ?_ ?_
                      rotate_left
                      ·intro w'
                       go_simp
                       with_reducible rfl
                      rotate_left
                      ·simp only [Act.put, sI_, sZ_, sS_, i64_w, i32_w]
                       rfl
                      refine pure_ (i := 22) (N := some 105) (v := ?_) (a' := ?_) #[true, true, true, true, true, true, true, true, true, true, true, true, true, true, true, true, true, true, true, true, true, false, true, false, false, false, false, false, false, false, false, false] rfl rfl (any_of HT_.out (by kernel_rfl)) (fun _ _ _ h => h) (Or.inl ⟨by rfl, ?_⟩) ?_ ?_
                      rotate_left
                      ·intro w'
                       go_simp
                       with_reducible rfl
                      rotate_left
                      ·simp only [Act.put, sI_, sZ_, sS_, i64_w, i32_w]
                       rfl
                      refine pure_ (i := 23) (N := some 106) (v := ?_) (a' := ?_) #[true, true, true, true, true, true, true, true, true, true, true, true, true, true, true, true, true, true, true, true, true, false, true, true, false, false, false, false, false, false, false, false] rfl rfl (any_of HT_.out (by kernel_rfl)) (fun _ _ _ h => h) (Or.inl ⟨by rfl, ?_⟩) ?_ ?_
                      rotate_left
                      ·intro w'
                       go_simp
                       with_reducible rfl
                      rotate_left
                      ·simp only [Act.put, sI_, sZ_, sS_, i64_w, i32_w]
                       rfl
                      refine pure_ (i := 27) (N := some 110) (v := ?_) (a' := ?_) #[true, true, true, true, true, true, true, true, true, true, true, true, true, true, true, true, true, true, true, true, true, false, true, true, false, false, false, true, false, false, false, false] rfl rfl (any_of HT_.out (by kernel_rfl)) (fun _ _ _ h => h) (Or.inl ⟨by rfl, ?_⟩) ?_ ?_
                      rotate_left
                      ·intro w'
                       go_simp
                       with_reducible rfl
                      rotate_left
                      ·simp only [Act.put, sI_, sZ_, sS_, i64_w, i32_w]
                       rfl
                      refine take_ (i := 21) (N := some 104) (v := ?_) (a' := ?_) #[true, true, true, true, true, true, true, true, true, true, true, true, true, true, true, true, true, true, true, true, true, true, true, true, false, false, false, true, false, false, false, false] rfl rfl (take_ofW HT_.out HW_.out (by kernel_rfl)) (fun _ _ _ h => h) (Or.inl ⟨by rfl, ?_⟩) hHeld ?_ ?_
                      rotate_left
                      ·rintro w' ⟨s0, s1, s2, s3, s4, s5, s6, s7, s8, s9, s10⟩
                       go_simp
                       with_reducible rfl
                      rotate_left
                      ·simp only [Act.put, sI_, sZ_, sS_, i64_w, i32_w]
                       rfl
                      refine pure_ (i := 24) (N := some 107) (v := ?_) (a' := ?_) #[true, true, true, true, true, true, true, true, true, true, true, true, true, true, true, true, true, true, true, true, true, true, true, true, true, false, false, true, false, false, false, false] rfl rfl (any_of HT_.out (by kernel_rfl)) (fun _ _ _ h => h) (Or.inl ⟨by rfl, ?_⟩) ?_ ?_
                      rotate_left
                      ·intro w'
                       go_simp
                       with_reducible rfl
                      rotate_left
                      ·simp only [Act.put, sI_, sZ_, sS_, i64_w, i32_w]
                       rfl
                      refine pure_ (i := 25) (N := some 108) (v := ?_) (a' := ?_) #[true, true, true, true, true, true, true, true, true, true, true, true, true, true, true, true, true, true, true, true, true, true, true, true, true, true, false, true, false, false, false, false] rfl rfl (any_of HT_.out (by kernel_rfl)) (fun _ _ _ h => h) (Or.inl ⟨by rfl, ?_⟩) ?_ ?_
                      rotate_left
                      ·intro w'
                       go_simp
                       with_reducible rfl
                      rotate_left
                      ·simp only [Act.put, sI_, sZ_, sS_, i64_w, i32_w]
                       rfl
                      refine take_ (i := 26) (N := some 109) (v := ?_) (a' := ?_) #[true, true, true, true, true, true, true, true, true, true, true, true, true, true, true, true, true, true, true, true, true, true, true, true, true, true, true, true, false, false, false, false] rfl rfl (take_ofW HT_.out HW_.out (by kernel_rfl)) (fun _ _ _ h => h) (Or.inl ⟨by rfl, ?_⟩) hHeld ?_ ?_
                      rotate_left
                      ·rintro w' ⟨s0, s1, s2, s3, s4, s5, s6, s7, s8, s9, s10⟩
                       go_simp
                       with_reducible rfl
                      rotate_left
                      ·simp only [Act.put, sI_, sZ_, sS_, i64_w, i32_w]
                       rfl
                      refine take_ (i := 28) (N := some 111) (v := ?_) (a' := ?_) #[true, true, true, true, true, true, true, true, true, true, true, true, true, true, true, true, true, true, true, true, true, true, true, true, true, true, true, true, true, false, false, false] rfl rfl (take_ofW HT_.out HW_.out (by kernel_rfl)) (fun _ _ _ h => h) (Or.inl ⟨by rfl, ?_⟩) hHeld ?_ ?_
                      rotate_left
                      ·rintro w' ⟨s0, s1, s2, s3, s4, s5, s6, s7, s8, s9, s10⟩
                       go_simp
                       with_reducible rfl
                      rotate_left
                      ·simp only [Act.put, sI_, sZ_, sS_, i64_w, i32_w]
                       rfl
                      refine pure_ (i := 29) (N := some 112) (v := ?_) (a' := ?_) #[true, true, true, true, true, true, true, true, true, true, true, true, true, true, true, true, true, true, true, true, true, true, true, true, true, true, true, true, true, true, false, false] rfl rfl (any_of HT_.out (by kernel_rfl)) (fun _ _ _ h => h) (Or.inl ⟨by rfl, ?_⟩) ?_ ?_
                      rotate_left
                      ·intro w'
                       go_simp
                       with_reducible rfl
                      rotate_left
                      ·simp only [Act.put, sI_, sZ_, sS_, i64_w, i32_w]
                       rfl
                      refine pure_ (i := 30) (N := some 113) (v := ?_) (a' := ?_) #[true, true, true, true, true, true, true, true, true, true, true, true, true, true, true, true, true, true, true, true, true, true, true, true, true, true, true, true, true, true, true, false] rfl rfl (any_of HT_.out (by kernel_rfl)) (fun _ _ _ h => h) (Or.inl ⟨by rfl, ?_⟩) ?_ ?_
                      rotate_left
                      ·intro w'
                       go_simp
                       with_reducible rfl
                      rotate_left
                      ·simp only [Act.put, sI_, sZ_, sS_, i64_w, i32_w]
                       rfl
                      refine pure_ (i := 31) (N := some 114) (v := ?_) (a' := ?_) #[true, true, true, true, true, true, true, true, true, true, true, true, true, true, true, true, true, true, true, true, true, true, true, true, true, true, true, true, true, true, true, true] rfl rfl (any_of HT_.out (by kernel_rfl)) (fun _ _ _ h => h) (Or.inl ⟨by rfl, ?_⟩) ?_ ?_
                      rotate_left
                      ·intro w'
                       go_simp
                       with_reducible rfl
                      rotate_left
                      ·simp only [Act.put, sI_, sZ_, sS_, i64_w, i32_w]
                       rfl
                      refine done_ (done_of HT_.out (by kernel_rfl)) ?_
                      try go_wp2
                      go_ret
                      exact ⟨by first | rfl | (simp [errW_none, errW_some] <;> rfl) | (simp only [← hji53]; first | rfl | (simp [errW_none, errW_some] <;> rfl)) | (simp [*, errW_none, errW_some] <;> rfl), by repeat (first | (with_reducible first | exact HB.out | apply bA_ | apply bN_ | apply bD_ | refine bE_ ?_ GE178.out | refine bE_ ?_ GE186.out) | exact HB.out)⟩
                     ·rw [if_neg c56] at H
                      have c56b0 : decide (((rd_T78 l0_3 x78_4).f0) ≤ ((rd_T78 l0_3 (ji53)).f0)) = false := decide_eq_false c56
                      clear c56
                      have H' := aM_ H
                      clear H
                      have p185 : 0 ≤ (x78_4 : Int) := oT_ (by first | (with_reducible assumption) | assumption)
                      have q185 : x78_4 < (l0_3.length : Int) := oT_ (by first | (with_reducible assumption) | assumption)
                      obtain ⟨ad185, e185, hx185_0, hx185_1, hx185_2⟩ := at_T78 HR0_3.out x78_4 p185 q185
                      cases e185
                      replace hx185_0 := (HB.out.cell (wL_ w _ hx185_0)).trans hx185_0
                      replace hx185_1 := (HB.out.cell (wL_ w _ hx185_1)).trans hx185_1
                      replace hx185_2 := (HB.out.cell (wL_ w _ hx185_2)).trans hx185_2
                      replace p185 := eq_true p185
                      replace q185 := eq_true q185
                      try go_wp2_with (first | ((with_reducible refine gate_dst (N := 8) rfl ?_); (try (refine gate_guard (by rfl) ?_; dsimp only)); refine box_event ?hg (N := 8) ?hd (cs := #[.int .i64 0, .int .i64 0, .int .i64 0]) (t := 78) ?hr ?_; (case hd => rfl); (case hg => rfl); (case hr => first | (go_simp; done) | (go_simp; rfl)); intro gb186 hg w62 hbox hb; have n0_ := aM_ (blk_below (g := gb178) (o := .cells #[.slice A0_0 l0_0.length c0_0, .slice A0_1 l0_1.length c0_1, .int .i64 a0_2, .slice (some ad185) l0_3.length c0_3, .bool a0_4] 32 (0, 0)) (by (with_reducible repeat (first | refine kN_ ?_ _ | refine kD_ ?_ | refine kA_ ?_ _)); exact BK178.out) hb); have n1_ := aM_ (bT_ (by repeat (first | (with_reducible first | exact HB.out | apply bA_ | apply bN_ | apply bD_ | refine bE_ ?_ GE178.out) | exact HB.out)) hb); have n2_ := aM_ (hbox); have n3_ := aM_ ((by rw [hg]; exact (bS_ (by repeat (first | (with_reducible first | exact HB.out | apply bA_ | apply bN_ | apply bD_ | refine bE_ ?_ GE178.out) | exact HB.out))) : w.heap.size ≤ gb186)); have n4_ := aM_ ((by rw [hg]; exact (bS_ (by repeat (first | (with_reducible first | exact HB.out | apply bA_ | apply bN_ | apply bD_ | refine bE_ ?_ GE178.out) | exact HB.out))) : w.heap.size ≤ gb186)); have n5_ := aM_ ((by rw [hg]; exact Nat.ne_of_lt (blk_lt (g := gb178) (o := .cells #[.slice A0_0 l0_0.length c0_0, .slice A0_1 l0_1.length c0_1, .int .i64 a0_2, .slice (some ad185) l0_3.length c0_3, .bool a0_4] 32 (0, 0)) (by (with_reducible repeat (first | refine kN_ ?_ _ | refine kD_ ?_ | refine kA_ ?_ _)); exact BK178.out)) : gb178 ≠ gb186)); have n6_ := aM_ ((by rw [hg]; exact Nat.ne_of_gt (blk_lt (g := gb178) (o := .cells #[.slice A0_0 l0_0.length c0_0, .slice A0_1 l0_1.length c0_1, .int .i64 a0_2, .slice (some ad185) l0_3.length c0_3, .bool a0_4] 32 (0, 0)) (by (with_reducible repeat (first | refine kN_ ?_ _ | refine kD_ ?_ | refine kA_ ?_ _)); exact BK178.out)) : gb186 ≠ gb178)); clear BK178; clear HB; have BK178 := n0_; have HB := n1_; have BK186 := n2_; have GW186 := n3_; have GE186 := n4_; have NB178_186 := n5_; have NB186_178 := n6_; clear n0_ n1_ n2_ n3_ n4_ n5_ n6_; clear hb hbox hg; have hnb63 := NB186_178.out; have hnc63 := NB178_186.out; have hcz64_0 : w62.cell? ⟨gb186, 0, none⟩ = some (.int .i64 0) := (kC_ BK186.out 0).trans rfl; have hcz64_1 : w62.cell? ⟨gb186, 1, none⟩ = some (.int .i64 0) := (kC_ BK186.out 1).trans rfl; have hcz64_2 : w62.cell? ⟨gb186, 2, none⟩ = some (.int .i64 0) := (kC_ BK186.out 2).trans rfl; have hfz64_0 := kF_ BK186.out 0; have hfz64_1 := kF_ BK186.out 1; have hfz64_2 := kF_ BK186.out 2))
                      have n0_ : Aside0 ((((w62.setCell ⟨gb186, 0, none⟩ (.int .i64 ((rd_T78 l0_3 x78_4).f0))).setCell ⟨gb186, 1, none⟩ (.int .i64 ((rd_T78 l0_3 x78_4).f1))).setCell ⟨gb186, 2, none⟩ (.int .i64 ((rd_T78 l0_3 x78_4).f2))).heap[gb178]? = some (.cells #[.slice A0_0 l0_0.length c0_0, .slice A0_1 l0_1.length c0_1, .int .i64 a0_2, .slice (some ad185) l0_3.length c0_3, .bool a0_4] 32 (0, 0))) := ⟨by (with_reducible repeat (first | refine kN_ ?_ _ | refine kD_ ?_ | refine kA_ ?_ _)); refine blk_far ?_ NB178_186.out _; (with_reducible repeat (first | refine kN_ ?_ _ | refine kD_ ?_ | refine kA_ ?_ _)); refine blk_far ?_ NB178_186.out _; (with_reducible repeat (first | refine kN_ ?_ _ | refine kD_ ?_ | refine kA_ ?_ _)); refine blk_far ?_ NB178_186.out _; (with_reducible repeat (first | refine kN_ ?_ _ | refine kD_ ?_ | refine kA_ ?_ _)); exact BK178.out⟩
                      have n1_ : Aside0 ((((w62.setCell ⟨gb186, 0, none⟩ (.int .i64 ((rd_T78 l0_3 x78_4).f0))).setCell ⟨gb186, 1, none⟩ (.int .i64 ((rd_T78 l0_3 x78_4).f1))).setCell ⟨gb186, 2, none⟩ (.int .i64 ((rd_T78 l0_3 x78_4).f2))).heap[gb186]? = some (.cells #[.int .i64 ((rd_T78 l0_3 x78_4).f0), .int .i64 ((rd_T78 l0_3 x78_4).f1), .int .i64 ((rd_T78 l0_3 x78_4).f2)] 78 (0, 0))) := ⟨by (with_reducible repeat (first | refine kN_ ?_ _ | refine kD_ ?_ | refine kA_ ?_ _)); refine kP_ (cs := #[.int .i64 ((rd_T78 l0_3 x78_4).f0), .int .i64 ((rd_T78 l0_3 x78_4).f1), .int .i64 0]) ?_ 2 _ rfl; (with_reducible repeat (first | refine kN_ ?_ _ | refine kD_ ?_ | refine kA_ ?_ _)); refine kP_ (cs := #[.int .i64 ((rd_T78 l0_3 x78_4).f0), .int .i64 0, .int .i64 0]) ?_ 1 _ rfl; (with_reducible repeat (first | refine kN_ ?_ _ | refine kD_ ?_ | refine kA_ ?_ _)); refine kP_ (cs := #[.int .i64 0, .int .i64 0, .int .i64 0]) ?_ 0 _ rfl; (with_reducible repeat (first | refine kN_ ?_ _ | refine kD_ ?_ | refine kA_ ?_ _)); exact BK186.out⟩
                      have n2_ : Aside0 (Below w.heap.size w (((w62.setCell ⟨gb186, 0, none⟩ (.int .i64 ((rd_T78 l0_3 x78_4).f0))).setCell ⟨gb186, 1, none⟩ (.int .i64 ((rd_T78 l0_3 x78_4).f1))).setCell ⟨gb186, 2, none⟩ (.int .i64 ((rd_T78 l0_3 x78_4).f2)))) := ⟨by repeat (first | (with_reducible first | exact HB.out | apply bA_ | apply bN_ | apply bD_ | refine bE_ ?_ GE178.out | refine bE_ ?_ GE186.out) | exact HB.out)⟩
                      (try clear BK178)
                      (try clear BK186)
                      (try clear HB)
                      generalize (((w62.setCell ⟨gb186, 0, none⟩ (.int .i64 ((rd_T78 l0_3 x78_4).f0))).setCell ⟨gb186, 1, none⟩ (.int .i64 ((rd_T78 l0_3 x78_4).f1))).setCell ⟨gb186, 2, none⟩ (.int .i64 ((rd_T78 l0_3 x78_4).f2))) = w65 at n0_ n1_ n2_ ⊢
                      have BK178 := n0_
                      have BK186 := n1_
                      have HB := n2_
                      clear n0_ n1_ n2_
                      have n0_ := aM_ (kD_ BK178.out)
                      have n1_ := aM_ (kD_ BK186.out)
                      have n2_ := aM_ (bD_ HB.out)
                      clear BK178
                      clear BK186
                      clear HB
                      have BK178 := n0_
                      have BK186 := n1_
                      have HB := n2_
                      clear n0_ n1_ n2_
                      have p190 : 0 ≤ ((ji53) : Int) := oT_ (by first | (with_reducible assumption) | assumption)
                      have q190 : (ji53) < (l0_3.length : Int) := oT_ (by first | (with_reducible assumption) | assumption)
                      obtain ⟨ad190, e190, hx190_0, hx190_1, hx190_2⟩ := at_T78 HR0_3.out (ji53) p190 q190
                      have hw190_2 := hx190_2
                      have hw190_1 := hx190_1
                      have hw190_0 := hx190_0
                      obtain rfl : ad185 = ad190 := (by injection e190)
                      replace hx190_0 := (HB.out.cell (wL_ w _ hx190_0)).trans hx190_0
                      replace hx190_1 := (HB.out.cell (wL_ w _ hx190_1)).trans hx190_1
                      replace hx190_2 := (HB.out.cell (wL_ w _ hx190_2)).trans hx190_2
                      replace p190 := eq_true p190
                      replace q190 := eq_true q190
                      refine start_ (n := 32) (S := fun w' => w'.cell? ⟨gb186, 0, none⟩ = some (.int .i64 ((rd_T78 l0_3 x78_4).f0)) ∧ w'.cell? ⟨gb186, 1, none⟩ = some (.int .i64 ((rd_T78 l0_3 x78_4).f1)) ∧ w'.cell? ⟨gb186, 2, none⟩ = some (.int .i64 ((rd_T78 l0_3 x78_4).f2)) ∧ w'.cell? ⟨gb178, 0, none⟩ = some (.slice A0_0 l0_0.length c0_0) ∧ w'.cell? ⟨gb178, 1, none⟩ = some (.slice A0_1 l0_1.length c0_1) ∧ w'.cell? ⟨gb178, 2, none⟩ = some (.int .i64 a0_2) ∧ w'.cell? ⟨gb178, 3, none⟩ = some (.slice (some ad185) l0_3.length c0_3) ∧ w'.cell? ⟨gb178, 4, none⟩ = some (.bool a0_4) ∧ w'.cell? (ad185.add (((ji53)).toNat * 3)) = some (.int .i64 ((rd_T78 l0_3 (ji53)).f0)) ∧ w'.cell? ⟨(ad185.add (((ji53)).toNat * 3)).block, (ad185.add (((ji53)).toNat * 3)).off + 1, none⟩ = some (.int .i64 ((rd_T78 l0_3 (ji53)).f1)) ∧ w'.cell? ⟨(ad185.add (((ji53)).toNat * 3)).block, (ad185.add (((ji53)).toNat * 3)).off + 2, none⟩ = some (.int .i64 ((rd_T78 l0_3 (ji53)).f2))) (ds := []) #[false, false, false, false, false, false, false, false, false, false, false, false, false, false, false, false, false, false, false, false, false, false, false, false, false, false, false, false, false, false, false, false] (by kernel_rfl) rfl rfl ⟨(kC_ BK186.out 0).trans rfl, (kC_ BK186.out 1).trans rfl, (kC_ BK186.out 2).trans rfl, (kC_ BK178.out 0).trans rfl, (kC_ BK178.out 1).trans rfl, (kC_ BK178.out 2).trans rfl, (kC_ BK178.out 3).trans rfl, (kC_ BK178.out 4).trans rfl, ((HB.out.cell (wL_ w _ hw190_0)).trans hw190_0), ((HB.out.cell (wL_ w _ hw190_1)).trans hw190_1), ((HB.out.cell (wL_ w _ hw190_2)).trans hw190_2)⟩ (fun hHeld => ?_); refine with_tabW impl_DiskOk.tab18 impl_DiskOk.bits18 (fun HT_ HW_ => ?_)
                      generalize w65.drew = w66 at BK178 BK186 HB hx190_0 hx190_1 hx190_2 hHeld ⊢
                      refine pure_ (i := 0) (N := some 83) (v := ?_) (a' := ?_) #[true, false, false, false, false, false, false, false, false, false, false, false, false, false, false, false, false, false, false, false, false, false, false, false, false, false, false, false, false, false, false, false] rfl rfl (any_of HT_.out (by kernel_rfl)) (fun _ _ _ h => h) (Or.inl ⟨by rfl, ?_⟩) ?_ ?_
                      rotate_left
                      ·intro w'
                       go_simp
                       with_reducible rfl
                      rotate_left
                      ·simp only [Act.put, sI_, sZ_, sS_, i64_w, i32_w]
                       rfl
                      refine take_ (i := 1) (N := some 84) (v := ?_) (a' := ?_) #[true, true, false, false, false, false, false, false, false, false, false, false, false, false, false, false, false, false, false, false, false, false, false, false, false, false, false, false, false, false, false, false] rfl rfl (take_ofW HT_.out HW_.out (by kernel_rfl)) (fun _ _ _ h => h) (Or.inl ⟨by rfl, ?_⟩) hHeld ?_ ?_
                      rotate_left
                      ·rintro w' ⟨s0, s1, s2, s3, s4, s5, s6, s7, s8, s9, s10⟩
                       go_simp
                       with_reducible rfl
                      rotate_left
                      ·simp only [Act.put, sI_, sZ_, sS_, i64_w, i32_w]
                       rfl
                      refine one_ (i := 2) (N := some 85) #[true, true, true, false, false, false, false, false, false, false, false, false, false, false, false, false, false, false, false, false, false, false, false, false, false, false, false, false, false, false, false, false] rfl rfl (one_of HT_.out (by kernel_rfl)) (by decide) (fun K hK => ?_)
                      refine goes_ Try.func62 (by kernel_rfl) rfl #[.int .i64 ((rd_T78 l0_3 x78_4).f0), .int .i64 0, .int .i64 100000] (by rfl) rfl rfl (by (try simp only [mA_, mC_, mN_]); first | done | rfl | (simp only [lD_, lT_]; rfl)) ?_
                      with_reducible refine (impl_in.calls ((rd_T78 l0_3 x78_4).f0) 0 100000 true _ A46.out).mono ?_
                      rintro e w' ⟨rfl, ⟨nd, rfl⟩⟩
                      refine ⟨_, rfl, ?_⟩
                      refine hK.out _ _ ⟨(kC_ BK186.out 0).trans rfl, (kC_ BK186.out 1).trans rfl, (kC_ BK186.out 2).trans rfl, (kC_ BK178.out 0).trans rfl, (kC_ BK178.out 1).trans rfl, (kC_ BK178.out 2).trans rfl, (kC_ BK178.out 3).trans rfl, (kC_ BK178.out 4).trans rfl, ((HB.out.cell (wL_ w _ hw190_0)).trans hw190_0), ((HB.out.cell (wL_ w _ hw190_1)).trans hw190_1), ((HB.out.cell (wL_ w _ hw190_2)).trans hw190_2)⟩ (fun hHeld => ?_)
                      clear hK K
                      refine norm_ (a' := ?_) ?_ ?_
                      rotate_left
                      ·show Act.put _ (some 85) _ = _
                       simp only [Act.put, sI_, sZ_, sS_, i64_w, i32_w]
                       rfl
                      refine pure_ (i := 3) (N := some 86) (v := ?_) (a' := ?_) #[true, true, true, true, false, false, false, false, false, false, false, false, false, false, false, false, false, false, false, false, false, false, false, false, false, false, false, false, false, false, false, false] rfl rfl (any_of HT_.out (by kernel_rfl)) (fun _ _ _ h => h) (Or.inl ⟨by rfl, ?_⟩) ?_ ?_
                      rotate_left
                      ·intro w'
                       go_simp
                       with_reducible rfl
                      rotate_left
                      ·simp only [Act.put, sI_, sZ_, sS_, i64_w, i32_w]
                       rfl
                      refine pure_ (i := 4) (N := some 87) (v := ?_) (a' := ?_) #[true, true, true, true, true, false, false, false, false, false, false, false, false, false, false, false, false, false, false, false, false, false, false, false, false, false, false, false, false, false, false, false] rfl rfl (any_of HT_.out (by kernel_rfl)) (fun _ _ _ h => h) (Or.inl ⟨by rfl, ?_⟩) ?_ ?_
                      rotate_left
                      ·intro w'
                       go_simp
                       with_reducible rfl
                      rotate_left
                      ·simp only [Act.put, sI_, sZ_, sS_, i64_w, i32_w]
                       rfl
                      refine pure_ (i := 5) (N := some 88) (v := ?_) (a' := ?_) #[true, true, true, true, true, true, false, false, false, false, false, false, false, false, false, false, false, false, false, false, false, false, false, false, false, false, false, false, false, false, false, false] rfl rfl (any_of HT_.out (by kernel_rfl)) (fun _ _ _ h => h) (Or.inl ⟨by rfl, ?_⟩) ?_ ?_
                      rotate_left
                      ·intro w'
                       go_simp
                       with_reducible rfl
                      rotate_left
                      ·simp only [Act.put, sI_, sZ_, sS_, i64_w, i32_w]
                       rfl
                      refine take_ (i := 6) (N := some 89) (v := ?_) (a' := ?_) #[true, true, true, true, true, true, true, false, false, false, false, false, false, false, false, false, false, false, false, false, false, false, false, false, false, false, false, false, false, false, false, false] rfl rfl (take_ofW HT_.out HW_.out (by kernel_rfl)) (fun _ _ _ h => h) (Or.inl ⟨by rfl, ?_⟩) hHeld ?_ ?_
                      rotate_left
                      ·rintro w' ⟨s0, s1, s2, s3, s4, s5, s6, s7, s8, s9, s10⟩
                       go_simp
                       with_reducible rfl
                      rotate_left
                      ·simp only [Act.put, sI_, sZ_, sS_, i64_w, i32_w]
                       rfl
                      refine one_ (i := 7) (N := some 90) #[true, true, true, true, true, true, true, true, false, false, false, false, false, false, false, false, false, false, false, false, false, false, false, false, false, false, false, false, false, false, false, false] rfl rfl (one_of HT_.out (by kernel_rfl)) (by decide) (fun K hK => ?_)
                      refine goes_ Try.func62 (by kernel_rfl) rfl #[.int .i64 ((rd_T78 l0_3 x78_4).f1), .int .i64 0, .int .i64 1048575] (by rfl) rfl rfl (by (try simp only [mA_, mC_, mN_]); first | done | rfl | (simp only [lD_, lT_]; rfl)) ?_
                      with_reducible refine (impl_in.calls ((rd_T78 l0_3 x78_4).f1) 0 1048575 true _ A48.out).mono ?_
                      rintro e w' ⟨rfl, ⟨nd, rfl⟩⟩
                      refine ⟨_, rfl, ?_⟩
                      refine hK.out _ _ ⟨(kC_ BK186.out 0).trans rfl, (kC_ BK186.out 1).trans rfl, (kC_ BK186.out 2).trans rfl, (kC_ BK178.out 0).trans rfl, (kC_ BK178.out 1).trans rfl, (kC_ BK178.out 2).trans rfl, (kC_ BK178.out 3).trans rfl, (kC_ BK178.out 4).trans rfl, ((HB.out.cell (wL_ w _ hw190_0)).trans hw190_0), ((HB.out.cell (wL_ w _ hw190_1)).trans hw190_1), ((HB.out.cell (wL_ w _ hw190_2)).trans hw190_2)⟩ (fun hHeld => ?_)
                      clear hK K
                      refine norm_ (a' := ?_) ?_ ?_
                      rotate_left
                      ·show Act.put _ (some 90) _ = _
                       simp only [Act.put, sI_, sZ_, sS_, i64_w, i32_w]
                       rfl
                      refine pure_ (i := 8) (N := some 91) (v := ?_) (a' := ?_) #[true, true, true, true, true, true, true, true, true, false, false, false, false, false, false, false, false, false, false, false, false, false, false, false, false, false, false, false, false, false, false, false] rfl rfl (any_of HT_.out (by kernel_rfl)) (fun _ _ _ h => h) (Or.inl ⟨by rfl, ?_⟩) ?_ ?_
                      rotate_left
                      ·intro w'
                       go_simp
                       with_reducible rfl
                      rotate_left
                      ·simp only [Act.put, sI_, sZ_, sS_, i64_w, i32_w]
                       rfl
                      refine pure_ (i := 9) (N := some 92) (v := ?_) (a' := ?_) #[true, true, true, true, true, true, true, true, true, true, false, false, false, false, false, false, false, false, false, false, false, false, false, false, false, false, false, false, false, false, false, false] rfl rfl (any_of HT_.out (by kernel_rfl)) (fun _ _ _ h => h) (Or.inl ⟨by rfl, ?_⟩) ?_ ?_
                      rotate_left
                      ·intro w'
                       go_simp
                       with_reducible rfl
                      rotate_left
                      ·simp only [Act.put, sI_, sZ_, sS_, i64_w, i32_w]
                       rfl
                      refine pure_ (i := 10) (N := some 93) (v := ?_) (a' := ?_) #[true, true, true, true, true, true, true, true, true, true, true, false, false, false, false, false, false, false, false, false, false, false, false, false, false, false, false, false, false, false, false, false] rfl rfl (any_of HT_.out (by kernel_rfl)) (fun _ _ _ h => h) (Or.inl ⟨by rfl, ?_⟩) ?_ ?_
                      rotate_left
                      ·intro w'
                       go_simp
                       with_reducible rfl
                      rotate_left
                      ·simp only [Act.put, sI_, sZ_, sS_, i64_w, i32_w]
                       rfl
                      refine pure_ (i := 11) (N := some 94) (v := ?_) (a' := ?_) #[true, true, true, true, true, true, true, true, true, true, true, true, false, false, false, false, false, false, false, false, false, false, false, false, false, false, false, false, false, false, false, false] rfl rfl (any_of HT_.out (by kernel_rfl)) (fun _ _ _ h => h) (Or.inl ⟨by rfl, ?_⟩) ?_ ?_
                      rotate_left
                      ·intro w'
                       go_simp
                       with_reducible rfl
                      rotate_left
                      ·simp only [Act.put, sI_, sZ_, sS_, i64_w, i32_w]
                       rfl
                      refine take_ (i := 12) (N := some 95) (v := ?_) (a' := ?_) #[true, true, true, true, true, true, true, true, true, true, true, true, true, false, false, false, false, false, false, false, false, false, false, false, false, false, false, false, false, false, false, false] rfl rfl (take_ofW HT_.out HW_.out (by kernel_rfl)) (fun _ _ _ h => h) (Or.inl ⟨by rfl, ?_⟩) hHeld ?_ ?_
                      rotate_left
                      ·rintro w' ⟨s0, s1, s2, s3, s4, s5, s6, s7, s8, s9, s10⟩
                       go_simp
                       with_reducible rfl
                      rotate_left
                      ·simp only [Act.put, sI_, sZ_, sS_, i64_w, i32_w]
                       rfl
                      refine one_ (i := 13) (N := some 96) #[true, true, true, true, true, true, true, true, true, true, true, true, true, true, false, false, false, false, false, false, false, false, false, false, false, false, false, false, false, false, false, false] rfl rfl (one_of HT_.out (by kernel_rfl)) (by decide) (fun K hK => ?_)
                      refine goes_ Try.func62 (by kernel_rfl) rfl #[.int .i64 ((rd_T78 l0_3 x78_4).f2), .int .i64 0, .int .i64 256] (by rfl) rfl rfl (by (try simp only [mA_, mC_, mN_]); first | done | rfl | (simp only [lD_, lT_]; rfl)) ?_
                      with_reducible refine (impl_in.calls ((rd_T78 l0_3 x78_4).f2) 0 256 true _ A50.out).mono ?_
                      rintro e w' ⟨rfl, ⟨nd, rfl⟩⟩
                      refine ⟨_, rfl, ?_⟩
                      refine hK.out _ _ ⟨(kC_ BK186.out 0).trans rfl, (kC_ BK186.out 1).trans rfl, (kC_ BK186.out 2).trans rfl, (kC_ BK178.out 0).trans rfl, (kC_ BK178.out 1).trans rfl, (kC_ BK178.out 2).trans rfl, (kC_ BK178.out 3).trans rfl, (kC_ BK178.out 4).trans rfl, ((HB.out.cell (wL_ w _ hw190_0)).trans hw190_0), ((HB.out.cell (wL_ w _ hw190_1)).trans hw190_1), ((HB.out.cell (wL_ w _ hw190_2)).trans hw190_2)⟩ (fun hHeld => ?_)
                      clear hK K
                      refine norm_ (a' := ?_) ?_ ?_
                      rotate_left
                      ·show Act.put _ (some 96) _ = _
                       simp only [Act.put, sI_, sZ_, sS_, i64_w, i32_w]
                       rfl
                      refine pure_ (i := 14) (N := some 97) (v := ?_) (a' := ?_) #[true, true, true, true, true, true, true, true, true, true, true, true, true, true, true, false, false, false, false, false, false, false, false, false, false, false, false, false, false, false, false, false] rfl rfl (any_of HT_.out (by kernel_rfl)) (fun _ _ _ h => h) (Or.inl ⟨by rfl, ?_⟩) ?_ ?_
                      rotate_left
                      ·intro w'
                       go_simp
                       with_reducible rfl
                      rotate_left
                      ·simp only [Act.put, sI_, sZ_, sS_, i64_w, i32_w]
                       rfl
                      refine pure_ (i := 15) (N := some 98) (v := ?_) (a' := ?_) #[true, true, true, true, true, true, true, true, true, true, true, true, true, true, true, true, false, false, false, false, false, false, false, false, false, false, false, false, false, false, false, false] rfl rfl (any_of HT_.out (by kernel_rfl)) (fun _ _ _ h => h) (Or.inl ⟨by rfl, ?_⟩) ?_ ?_
                      rotate_left
                      ·intro w'
                       go_simp
                       with_reducible rfl
                      rotate_left
                      ·simp only [Act.put, sI_, sZ_, sS_, i64_w, i32_w]
                       rfl
                      refine pure_ (i := 16) (N := some 99) (v := ?_) (a' := ?_) #[true, true, true, true, true, true, true, true, true, true, true, true, true, true, true, true, true, false, false, false, false, false, false, false, false, false, false, false, false, false, false, false] rfl rfl (any_of HT_.out (by kernel_rfl)) (fun _ _ _ h => h) (Or.inl ⟨by rfl, ?_⟩) ?_ ?_
                      rotate_left
                      ·intro w'
                       go_simp
                       with_reducible rfl
                      rotate_left
                      ·simp only [Act.put, sI_, sZ_, sS_, i64_w, i32_w]
                       rfl
                      refine pure_ (i := 17) (N := some 100) (v := ?_) (a' := ?_) #[true, true, true, true, true, true, true, true, true, true, true, true, true, true, true, true, true, true, false, false, false, false, false, false, false, false, false, false, false, false, false, false] rfl rfl (any_of HT_.out (by kernel_rfl)) (fun _ _ _ h => h) (Or.inl ⟨by rfl, ?_⟩) ?_ ?_
                      rotate_left
                      ·intro w'
                       go_simp
                       with_reducible rfl
                      rotate_left
                      ·simp only [Act.put, sI_, sZ_, sS_, i64_w, i32_w]
                       rfl
                      refine pure_ (i := 18) (N := some 101) (v := ?_) (a' := ?_) #[true, true, true, true, true, true, true, true, true, true, true, true, true, true, true, true, true, true, true, false, false, false, false, false, false, false, false, false, false, false, false, false] rfl rfl (any_of HT_.out (by kernel_rfl)) (fun _ _ _ h => h) (Or.inl ⟨by rfl, ?_⟩) ?_ ?_
                      rotate_left
                      ·intro w'
                       go_simp
                       with_reducible rfl
                      rotate_left
                      ·simp only [Act.put, sI_, sZ_, sS_, i64_w, i32_w]
                       rfl
                      refine pure_ (i := 19) (N := some 102) (v := ?_) (a' := ?_) #[true, true, true, true, true, true, true, true, true, true, true, true, true, true, true, true, true, true, true, true, false, false, false, false, false, false, false, false, false, false, false, false] rfl rfl (any_of HT_.out (by kernel_rfl)) (fun _ _ _ h => h) (Or.inl ⟨by rfl, ?_⟩) ?_ ?_
                      rotate_left
                      ·intro w'
                       go_simp
                       with_reducible rfl
                      rotate_left
                      ·simp only [Act.put, sI_, sZ_, sS_, i64_w, i32_w]
                       rfl
                      refine pure_ (i := 20) (N := some 103) (v := ?_) (a' := ?_) #[true, true, true, true, true, true, true, true, true, true, true, true, true, true, true, true, true, true, true, true, true, false, false, false, false, false, false, false, false, false, false, false] rfl rfl (any_of HT_.out (by kernel_rfl)) (fun _ _ _ h => h) (Or.inl ⟨by rfl, ?_⟩) ?_ ?_
                      rotate_left
                      ·intro w'
                       go_simp
                       with_reducible rfl
                      rotate_left
                      ·simp only [Act.put, sI_, sZ_, sS_, i64_w, i32_w]
                       rfl
                      refine pure_ (i := 22) (N := some 105) (v := ?_) (a' := ?_) #[true, true, true, true, true, true, true, true, true, true, true, true, true, true, true, true, true, true, true, true, true, false, true, false, false, false, false, false, false, false, false, false] rfl rfl (any_of HT_.out (by kernel_rfl)) (fun _ _ _ h => h) (Or.inl ⟨by rfl, ?_⟩) ?_ ?_
                      rotate_left
                      ·intro w'
                       go_simp
                       with_reducible rfl
                      rotate_left
                      ·simp only [Act.put, sI_, sZ_, sS_, i64_w, i32_w]
                       rfl
                      refine pure_ (i := 23) (N := some 106) (v := ?_) (a' := ?_) #[true, true, true, true, true, true, true, true, true, true, true, true, true, true, true, true, true, true, true, true, true, false, true, true, false, false, false, false, false, false, false, false] rfl rfl (any_of HT_.out (by kernel_rfl)) (fun _ _ _ h => h) (Or.inl ⟨by rfl, ?_⟩) ?_ ?_
                      rotate_left
                      ·intro w'
                       go_simp
                       with_reducible rfl
                      rotate_left
                      ·simp only [Act.put, sI_, sZ_, sS_, i64_w, i32_w]
                       rfl
                      refine pure_ (i := 27) (N := some 110) (v := ?_) (a' := ?_) #[true, true, true, true, true, true, true, true, true, true, true, true, true, true, true, true, true, true, true, true, true, false, true, true, false, false, false, true, false, false, false, false] rfl rfl (any_of HT_.out (by kernel_rfl)) (fun _ _ _ h => h) (Or.inl ⟨by rfl, ?_⟩) ?_ ?_
                      rotate_left
                      ·intro w'
                       go_simp
                       with_reducible rfl
                      rotate_left
                      ·simp only [Act.put, sI_, sZ_, sS_, i64_w, i32_w]
                       rfl
                      refine take_ (i := 21) (N := some 104) (v := ?_) (a' := ?_) #[true, true, true, true, true, true, true, true, true, true, true, true, true, true, true, true, true, true, true, true, true, true, true, true, false, false, false, true, false, false, false, false] rfl rfl (take_ofW HT_.out HW_.out (by kernel_rfl)) (fun _ _ _ h => h) (Or.inl ⟨by rfl, ?_⟩) hHeld ?_ ?_
                      rotate_left
                      ·rintro w' ⟨s0, s1, s2, s3, s4, s5, s6, s7, s8, s9, s10⟩
                       go_simp
                       with_reducible rfl
                      rotate_left
                      ·simp only [Act.put, sI_, sZ_, sS_, i64_w, i32_w]
                       rfl
                      refine pure_ (i := 24) (N := some 107) (v := ?_) (a' := ?_) #[true, true, true, true, true, true, true, true, true, true, true, true, true, true, true, true, true, true, true, true, true, true, true, true, true, false, false, true, false, false, false, false] rfl rfl (any_of HT_.out (by kernel_rfl)) (fun _ _ _ h => h) (Or.inl ⟨by rfl, ?_⟩) ?_ ?_
                      rotate_left
                      ·intro w'
                       go_simp
                       with_reducible rfl
                      rotate_left
                      ·simp only [Act.put, sI_, sZ_, sS_, i64_w, i32_w]
                       rfl
                      refine pure_ (i := 25) (N := some 108) (v := ?_) (a' := ?_) #[true, true, true, true, true, true, true, true, true, true, true, true, true, true, true, true, true, true, true, true, true, true, true, true, true, true, false, true, false, false, false, false] rfl rfl (any_of HT_.out (by kernel_rfl)) (fun _ _ _ h => h) (Or.inl ⟨by rfl, ?_⟩) ?_ ?_
                      rotate_left
                      ·intro w'
                       go_simp
                       with_reducible rfl
                      rotate_left
                      ·simp only [Act.put, sI_, sZ_, sS_, i64_w, i32_w]
                       rfl
                      refine take_ (i := 26) (N := some 109) (v := ?_) (a' := ?_) #[true, true, true, true, true, true, true, true, true, true, true, true, true, true, true, true, true, true, true, true, true, true, true, true, true, true, true, true, false, false, false, false] rfl rfl (take_ofW HT_.out HW_.out (by kernel_rfl)) (fun _ _ _ h => h) (Or.inl ⟨by rfl, ?_⟩) hHeld ?_ ?_
                      rotate_left
                      ·rintro w' ⟨s0, s1, s2, s3, s4, s5, s6, s7, s8, s9, s10⟩
                       go_simp
                       with_reducible rfl
                      rotate_left
                      ·simp only [Act.put, sI_, sZ_, sS_, i64_w, i32_w]
                       rfl
                      refine take_ (i := 28) (N := some 111) (v := ?_) (a' := ?_) #[true, true, true, true, true, true, true, true, true, true, true, true, true, true, true, true, true, true, true, true, true, true, true, true, true, true, true, true, true, false, false, false] rfl rfl (take_ofW HT_.out HW_.out (by kernel_rfl)) (fun _ _ _ h => h) (Or.inl ⟨by rfl, ?_⟩) hHeld ?_ ?_
                      rotate_left
                      ·rintro w' ⟨s0, s1, s2, s3, s4, s5, s6, s7, s8, s9, s10⟩
                       go_simp
                       with_reducible rfl
                      rotate_left
                      ·simp only [Act.put, sI_, sZ_, sS_, i64_w, i32_w]
                       rfl
                      refine pure_ (i := 29) (N := some 112) (v := ?_) (a' := ?_) #[true, true, true, true, true, true, true, true, true, true, true, true, true, true, true, true, true, true, true, true, true, true, true, true, true, true, true, true, true, true, false, false] rfl rfl (any_of HT_.out (by kernel_rfl)) (fun _ _ _ h => h) (Or.inl ⟨by rfl, ?_⟩) ?_ ?_
                      rotate_left
                      ·intro w'
                       go_simp
                       with_reducible rfl
                      rotate_left
                      ·simp only [Act.put, sI_, sZ_, sS_, i64_w, i32_w]
                       rfl
                      refine pure_ (i := 30) (N := some 113) (v := ?_) (a' := ?_) #[true, true, true, true, true, true, true, true, true, true, true, true, true, true, true, true, true, true, true, true, true, true, true, true, true, true, true, true, true, true, true, false] rfl rfl (any_of HT_.out (by kernel_rfl)) (fun _ _ _ h => h) (Or.inl ⟨by rfl, ?_⟩) ?_ ?_
                      rotate_left
                      ·intro w'
                       go_simp
                       with_reducible rfl
                      rotate_left
                      ·simp only [Act.put, sI_, sZ_, sS_, i64_w, i32_w]
                       rfl
                      refine pure_ (i := 31) (N := some 114) (v := ?_) (a' := ?_) #[true, true, true, true, true, true, true, true, true, true, true, true, true, true, true, true, true, true, true, true, true, true, true, true, true, true, true, true, true, true, true, true] rfl rfl (any_of HT_.out (by kernel_rfl)) (fun _ _ _ h => h) (Or.inl ⟨by rfl, ?_⟩) ?_ ?_
                      rotate_left
                      ·intro w'
                       go_simp
                       with_reducible rfl
                      rotate_left
                      ·simp only [Act.put, sI_, sZ_, sS_, i64_w, i32_w]
                       rfl
                      refine done_ (done_of HT_.out (by kernel_rfl)) ?_
                      try go_wp2
                      go_roundg k4
                      case measure => have := HJ1.out; have := HK2.out; have := HK3.out; have := HK4.out; omega
                      case rel => exact ⟨(wrap64 (x78_4 + 1)), (by first | rfl | (simp; done) | (simp [*]; done)), H', ⟨by have := HJ1.out; have := HK2.out; have := HK3.out; have := HK4.out; omega⟩, ⟨by (with_reducible repeat (first | refine kN_ ?_ _ | refine kD_ ?_ | refine kA_ ?_ _)); exact BK178.out⟩, ⟨by repeat (first | (with_reducible first | exact HB.out | apply bA_ | apply bN_ | apply bD_ | refine bE_ ?_ GE178.out | refine bE_ ?_ GE186.out) | exact HB.out)⟩⟩
                    ·rw [if_neg c55] at H
                     exact absurd H (by simp)
                   ·rw [if_neg c54] at H
                    exact absurd H (by simp)
                  ·rw [if_neg c52] at H
                   have c52b0 : decide (0 < x78_4) = false := decide_eq_false c52
                   clear c52
                   have H' := aM_ H
                   clear H
                   have p185 : 0 ≤ (x78_4 : Int) := oT_ (by first | (with_reducible assumption) | assumption)
                   have q185 : x78_4 < (l0_3.length : Int) := oT_ (by first | (with_reducible assumption) | assumption)
                   obtain ⟨ad185, e185, hx185_0, hx185_1, hx185_2⟩ := at_T78 HR0_3.out x78_4 p185 q185
                   cases e185
                   replace hx185_0 := (HB.out.cell (wL_ w _ hx185_0)).trans hx185_0
                   replace hx185_1 := (HB.out.cell (wL_ w _ hx185_1)).trans hx185_1
                   replace hx185_2 := (HB.out.cell (wL_ w _ hx185_2)).trans hx185_2
                   replace p185 := eq_true p185
                   replace q185 := eq_true q185
                   try go_wp2_with (first | ((with_reducible refine gate_dst (N := 8) rfl ?_); (try (refine gate_guard (by rfl) ?_; dsimp only)); refine box_event ?hg (N := 8) ?hd (cs := #[.int .i64 0, .int .i64 0, .int .i64 0]) (t := 78) ?hr ?_; (case hd => rfl); (case hg => rfl); (case hr => first | (go_simp; done) | (go_simp; rfl)); intro gb186 hg w67 hbox hb; have n0_ := aM_ (blk_below (g := gb178) (o := .cells #[.slice A0_0 l0_0.length c0_0, .slice A0_1 l0_1.length c0_1, .int .i64 a0_2, .slice (some ad185) l0_3.length c0_3, .bool a0_4] 32 (0, 0)) (by (with_reducible repeat (first | refine kN_ ?_ _ | refine kD_ ?_ | refine kA_ ?_ _)); exact BK178.out) hb); have n1_ := aM_ (bT_ (by repeat (first | (with_reducible first | exact HB.out | apply bA_ | apply bN_ | apply bD_ | refine bE_ ?_ GE178.out) | exact HB.out)) hb); have n2_ := aM_ (hbox); have n3_ := aM_ ((by rw [hg]; exact (bS_ (by repeat (first | (with_reducible first | exact HB.out | apply bA_ | apply bN_ | apply bD_ | refine bE_ ?_ GE178.out) | exact HB.out))) : w.heap.size ≤ gb186)); have n4_ := aM_ ((by rw [hg]; exact (bS_ (by repeat (first | (with_reducible first | exact HB.out | apply bA_ | apply bN_ | apply bD_ | refine bE_ ?_ GE178.out) | exact HB.out))) : w.heap.size ≤ gb186)); have n5_ := aM_ ((by rw [hg]; exact Nat.ne_of_lt (blk_lt (g := gb178) (o := .cells #[.slice A0_0 l0_0.length c0_0, .slice A0_1 l0_1.length c0_1, .int .i64 a0_2, .slice (some ad185) l0_3.length c0_3, .bool a0_4] 32 (0, 0)) (by (with_reducible repeat (first | refine kN_ ?_ _ | refine kD_ ?_ | refine kA_ ?_ _)); exact BK178.out)) : gb178 ≠ gb186)); have n6_ := aM_ ((by rw [hg]; exact Nat.ne_of_gt (blk_lt (g := gb178) (o := .cells #[.slice A0_0 l0_0.length c0_0, .slice A0_1 l0_1.length c0_1, .int .i64 a0_2, .slice (some ad185) l0_3.length c0_3, .bool a0_4] 32 (0, 0)) (by (with_reducible repeat (first | refine kN_ ?_ _ | refine kD_ ?_ | refine kA_ ?_ _)); exact BK178.out)) : gb186 ≠ gb178)); clear BK178; clear HB; have BK178 := n0_; have HB := n1_; have BK186 := n2_; have GW186 := n3_; have GE186 := n4_; have NB178_186 := n5_; have NB186_178 := n6_; clear n0_ n1_ n2_ n3_ n4_ n5_ n6_; clear hb hbox hg; have hnb68 := NB186_178.out; have hnc68 := NB178_186.out; have hcz69_0 : w67.cell? ⟨gb186, 0, none⟩ = some (.int .i64 0) := (kC_ BK186.out 0).trans rfl; have hcz69_1 : w67.cell? ⟨gb186, 1, none⟩ = some (.int .i64 0) := (kC_ BK186.out 1).trans rfl; have hcz69_2 : w67.cell? ⟨gb186, 2, none⟩ = some (.int .i64 0) := (kC_ BK186.out 2).trans rfl; have hfz69_0 := kF_ BK186.out 0; have hfz69_1 := kF_ BK186.out 1; have hfz69_2 := kF_ BK186.out 2))
                   have n0_ : Aside0 ((((w67.setCell ⟨gb186, 0, none⟩ (.int .i64 ((rd_T78 l0_3 x78_4).f0))).setCell ⟨gb186, 1, none⟩ (.int .i64 ((rd_T78 l0_3 x78_4).f1))).setCell ⟨gb186, 2, none⟩ (.int .i64 ((rd_T78 l0_3 x78_4).f2))).heap[gb178]? = some (.cells #[.slice A0_0 l0_0.length c0_0, .slice A0_1 l0_1.length c0_1, .int .i64 a0_2, .slice (some ad185) l0_3.length c0_3, .bool a0_4] 32 (0, 0))) := ⟨by (with_reducible repeat (first | refine kN_ ?_ _ | refine kD_ ?_ | refine kA_ ?_ _)); refine blk_far ?_ NB178_186.out _; (with_reducible repeat (first | refine kN_ ?_ _ | refine kD_ ?_ | refine kA_ ?_ _)); refine blk_far ?_ NB178_186.out _; (with_reducible repeat (first | refine kN_ ?_ _ | refine kD_ ?_ | refine kA_ ?_ _)); refine blk_far ?_ NB178_186.out _; (with_reducible repeat (first | refine kN_ ?_ _ | refine kD_ ?_ | refine kA_ ?_ _)); exact BK178.out⟩
                   have n1_ : Aside0 ((((w67.setCell ⟨gb186, 0, none⟩ (.int .i64 ((rd_T78 l0_3 x78_4).f0))).setCell ⟨gb186, 1, none⟩ (.int .i64 ((rd_T78 l0_3 x78_4).f1))).setCell ⟨gb186, 2, none⟩ (.int .i64 ((rd_T78 l0_3 x78_4).f2))).heap[gb186]? = some (.cells #[.int .i64 ((rd_T78 l0_3 x78_4).f0), .int .i64 ((rd_T78 l0_3 x78_4).f1), .int .i64 ((rd_T78 l0_3 x78_4).f2)] 78 (0, 0))) := ⟨by (with_reducible repeat (first | refine kN_ ?_ _ | refine kD_ ?_ | refine kA_ ?_ _)); refine kP_ (cs := #[.int .i64 ((rd_T78 l0_3 x78_4).f0), .int .i64 ((rd_T78 l0_3 x78_4).f1), .int .i64 0]) ?_ 2 _ rfl; (with_reducible repeat (first | refine kN_ ?_ _ | refine kD_ ?_ | refine kA_ ?_ _)); refine kP_ (cs := #[.int .i64 ((rd_T78 l0_3 x78_4).f0), .int .i64 0, .int .i64 0]) ?_ 1 _ rfl; (with_reducible repeat (first | refine kN_ ?_ _ | refine kD_ ?_ | refine kA_ ?_ _)); refine kP_ (cs := #[.int .i64 0, .int .i64 0, .int .i64 0]) ?_ 0 _ rfl; (with_reducible repeat (first | refine kN_ ?_ _ | refine kD_ ?_ | refine kA_ ?_ _)); exact BK186.out⟩
                   have n2_ : Aside0 (Below w.heap.size w (((w67.setCell ⟨gb186, 0, none⟩ (.int .i64 ((rd_T78 l0_3 x78_4).f0))).setCell ⟨gb186, 1, none⟩ (.int .i64 ((rd_T78 l0_3 x78_4).f1))).setCell ⟨gb186, 2, none⟩ (.int .i64 ((rd_T78 l0_3 x78_4).f2)))) := ⟨by repeat (first | (with_reducible first | exact HB.out | apply bA_ | apply bN_ | apply bD_ | refine bE_ ?_ GE178.out | refine bE_ ?_ GE186.out) | exact HB.out)⟩
                   (try clear BK178)
                   (try clear BK186)
                   (try clear HB)
                   generalize (((w67.setCell ⟨gb186, 0, none⟩ (.int .i64 ((rd_T78 l0_3 x78_4).f0))).setCell ⟨gb186, 1, none⟩ (.int .i64 ((rd_T78 l0_3 x78_4).f1))).setCell ⟨gb186, 2, none⟩ (.int .i64 ((rd_T78 l0_3 x78_4).f2))) = w70 at n0_ n1_ n2_ ⊢
                   have BK178 := n0_
                   have BK186 := n1_
                   have HB := n2_
                   clear n0_ n1_ n2_
                   have n0_ := aM_ (kD_ BK178.out)
                   have n1_ := aM_ (kD_ BK186.out)
                   have n2_ := aM_ (bD_ HB.out)
                   clear BK178
                   clear BK186
                   clear HB
                   have BK178 := n0_
                   have BK186 := n1_
                   have HB := n2_
                   clear n0_ n1_ n2_
                   refine start_ (n := 32) (S := fun w' => w'.cell? ⟨gb186, 0, none⟩ = some (.int .i64 ((rd_T78 l0_3 x78_4).f0)) ∧ w'.cell? ⟨gb186, 1, none⟩ = some (.int .i64 ((rd_T78 l0_3 x78_4).f1)) ∧ w'.cell? ⟨gb186, 2, none⟩ = some (.int .i64 ((rd_T78 l0_3 x78_4).f2))) (ds := []) #[false, false, false, false, false, false, false, false, false, false, false, false, false, false, false, false, false, false, false, false, false, false, false, false, false, false, false, false, false, false, false, false] (by kernel_rfl) rfl rfl ⟨(kC_ BK186.out 0).trans rfl, (kC_ BK186.out 1).trans rfl, (kC_ BK186.out 2).trans rfl⟩ (fun hHeld => ?_); refine with_tabW impl_DiskOk.tab18 impl_DiskOk.bits18 (fun HT_ HW_ => ?_)
                   generalize w70.drew = w71 at BK178 BK186 HB hHeld ⊢
                   refine pure_ (i := 0) (N := some 83) (v := ?_) (a' := ?_) #[true, false, false, false, false, false, false, false, false, false, false, false, false, false, false, false, false, false, false, false, false, false, false, false, false, false, false, false, false, false, false, false] rfl rfl (any_of HT_.out (by kernel_rfl)) (fun _ _ _ h => h) (Or.inl ⟨by rfl, ?_⟩) ?_ ?_
                   rotate_left
                   ·intro w'
                    go_simp
                    with_reducible rfl
                   rotate_left
                   ·simp only [Act.put, sI_, sZ_, sS_, i64_w, i32_w]
                    rfl
                   refine take_ (i := 1) (N := some 84) (v := ?_) (a' := ?_) #[true, true, false, false, false, false, false, false, false, false, false, false, false, false, false, false, false, false, false, false, false, false, false, false, false, false, false, false, false, false, false, false] rfl rfl (take_ofW HT_.out HW_.out (by kernel_rfl)) (fun _ _ _ h => h) (Or.inl ⟨by rfl, ?_⟩) hHeld ?_ ?_
                   rotate_left
                   ·rintro w' ⟨s0, s1, s2⟩
                    go_simp
                    with_reducible rfl
                   rotate_left
                   ·simp only [Act.put, sI_, sZ_, sS_, i64_w, i32_w]
                    rfl
                   refine one_ (i := 2) (N := some 85) #[true, true, true, false, false, false, false, false, false, false, false, false, false, false, false, false, false, false, false, false, false, false, false, false, false, false, false, false, false, false, false, false] rfl rfl (one_of HT_.out (by kernel_rfl)) (by decide) (fun K hK => ?_)
                   refine goes_ Try.func62 (by kernel_rfl) rfl #[.int .i64 ((rd_T78 l0_3 x78_4).f0), .int .i64 0, .int .i64 100000] (by rfl) rfl rfl (by (try simp only [mA_, mC_, mN_]); first | done | rfl | (simp only [lD_, lT_]; rfl)) ?_
                   with_reducible refine (impl_in.calls ((rd_T78 l0_3 x78_4).f0) 0 100000 true _ A46.out).mono ?_
                   rintro e w' ⟨rfl, ⟨nd, rfl⟩⟩
                   refine ⟨_, rfl, ?_⟩
                   refine hK.out _ _ ⟨(kC_ BK186.out 0).trans rfl, (kC_ BK186.out 1).trans rfl, (kC_ BK186.out 2).trans rfl⟩ (fun hHeld => ?_)
                   clear hK K
                   refine norm_ (a' := ?_) ?_ ?_
                   rotate_left
                   ·show Act.put _ (some 85) _ = _
                    simp only [Act.put, sI_, sZ_, sS_, i64_w, i32_w]
                    rfl
                   refine pure_ (i := 3) (N := some 86) (v := ?_) (a' := ?_) #[true, true, true, true, false, false, false, false, false, false, false, false, false, false, false, false, false, false, false, false, false, false, false, false, false, false, false, false, false, false, false, false] rfl rfl (any_of HT_.out (by kernel_rfl)) (fun _ _ _ h => h) (Or.inl ⟨by rfl, ?_⟩) ?_ ?_
                   rotate_left
                   ·intro w'
                    go_simp
                    with_reducible rfl
                   rotate_left
                   ·simp only [Act.put, sI_, sZ_, sS_, i64_w, i32_w]
                    rfl
                   refine pure_ (i := 4) (N := some 87) (v := ?_) (a' := ?_) #[true, true, true, true, true, false, false, false, false, false, false, false, false, false, false, false, false, false, false, false, false, false, false, false, false, false, false, false, false, false, false, false] rfl rfl (any_of HT_.out (by kernel_rfl)) (fun _ _ _ h => h) (Or.inl ⟨by rfl, ?_⟩) ?_ ?_
                   rotate_left
                   ·intro w'
                    go_simp
                    with_reducible rfl
                   rotate_left
                   ·simp only [Act.put, sI_, sZ_, sS_, i64_w, i32_w]
                    rfl
                   refine pure_ (i := 5) (N := some 88) (v := ?_) (a' := ?_) #[true, true, true, true, true, true, false, false, false, false, false, false, false, false, false, false, false, false, false, false, false, false, false, false, false, false, false, false, false, false, false, false] rfl rfl (any_of HT_.out (by kernel_rfl)) (fun _ _ _ h => h) (Or.inl ⟨by rfl, ?_⟩) ?_ ?_
                   rotate_left
                   ·intro w'
                    go_simp
                    with_reducible rfl
                   rotate_left
                   ·simp only [Act.put, sI_, sZ_, sS_, i64_w, i32_w]
                    rfl
                   refine take_ (i := 6) (N := some 89) (v := ?_) (a' := ?_) #[true, true, true, true, true, true, true, false, false, false, false, false, false, false, false, false, false, false, false, false, false, false, false, false, false, false, false, false, false, false, false, false] rfl rfl (take_ofW HT_.out HW_.out (by kernel_rfl)) (fun _ _ _ h => h) (Or.inl ⟨by rfl, ?_⟩) hHeld ?_ ?_
                   rotate_left
                   ·rintro w' ⟨s0, s1, s2⟩
                    go_simp
                    with_reducible rfl
                   rotate_left
                   ·simp only [Act.put, sI_, sZ_, sS_, i64_w, i32_w]
                    rfl
                   refine one_ (i := 7) (N := some 90) #[true, true, true, true, true, true, true, true, false, false, false, false, false, false, false, false, false, false, false, false, false, false, false, false, false, false, false, false, false, false, false, false] rfl rfl (one_of HT_.out (by kernel_rfl)) (by decide) (fun K hK => ?_)
                   refine goes_ Try.func62 (by kernel_rfl) rfl #[.int .i64 ((rd_T78 l0_3 x78_4).f1), .int .i64 0, .int .i64 1048575] (by rfl) rfl rfl (by (try simp only [mA_, mC_, mN_]); first | done | rfl | (simp only [lD_, lT_]; rfl)) ?_
                   with_reducible refine (impl_in.calls ((rd_T78 l0_3 x78_4).f1) 0 1048575 true _ A48.out).mono ?_
                   rintro e w' ⟨rfl, ⟨nd, rfl⟩⟩
                   refine ⟨_, rfl, ?_⟩
                   refine hK.out _ _ ⟨(kC_ BK186.out 0).trans rfl, (kC_ BK186.out 1).trans rfl, (kC_ BK186.out 2).trans rfl⟩ (fun hHeld => ?_)
                   clear hK K
                   refine norm_ (a' := ?_) ?_ ?_
                   rotate_left
                   ·show Act.put _ (some 90) _ = _
                    simp only [Act.put, sI_, sZ_, sS_, i64_w, i32_w]
                    rfl
                   refine pure_ (i := 8) (N := some 91) (v := ?_) (a' := ?_) #[true, true, true, true, true, true, true, true, true, false, false, false, false, false, false, false, false, false, false, false, false, false, false, false, false, false, false, false, false, false, false, false] rfl rfl (any_of HT_.out (by kernel_rfl)) (fun _ _ _ h => h) (Or.inl ⟨by rfl, ?_⟩) ?_ ?_
                   rotate_left
                   ·intro w'
                    go_simp
                    with_reducible rfl
                   rotate_left
                   ·simp only [Act.put, sI_, sZ_, sS_, i64_w, i32_w]
                    rfl
                   refine pure_ (i := 9) (N := some 92) (v := ?_) (a' := ?_) #[true, true, true, true, true, true, true, true, true, true, false, false, false, false, false, false, false, false, false, false, false, false, false, false, false, false, false, false, false, false, false, false] rfl rfl (any_of HT_.out (by kernel_rfl)) (fun _ _ _ h => h) (Or.inl ⟨by rfl, ?_⟩) ?_ ?_
                   rotate_left
                   ·intro w'
                    go_simp
                    with_reducible rfl
                   rotate_left
                   ·simp only [Act.put, sI_, sZ_, sS_, i64_w, i32_w]
                    rfl
                   refine pure_ (i := 10) (N := some 93) (v := ?_) (a' := ?_) #[true, true, true, true, true, true, true, true, true, true, true, false, false, false, false, false, false, false, false, false, false, false, false, false, false, false, false, false, false, false, false, false] rfl rfl (any_of HT_.out (by kernel_rfl)) (fun _ _ _ h => h) (Or.inl ⟨by rfl, ?_⟩) ?_ ?_
                   rotate_left
                   ·intro w'
                    go_simp
                    with_reducible rfl
                   rotate_left
                   ·simp only [Act.put, sI_, sZ_, sS_, i64_w, i32_w]
                    rfl
                   refine pure_ (i := 11) (N := some 94) (v := ?_) (a' := ?_) #[true, true, true, true, true, true, true, true, true, true, true, true, false, false, false, false, false, false, false, false, false, false, false, false, false, false, false, false, false, false, false, false] rfl rfl (any_of HT_.out (by kernel_rfl)) (fun _ _ _ h => h) (Or.inl ⟨by rfl, ?_⟩) ?_ ?_
                   rotate_left
                   ·intro w'
                    go_simp
                    with_reducible rfl
                   rotate_left
                   ·simp only [Act.put, sI_, sZ_, sS_, i64_w, i32_w]
                    rfl
                   refine take_ (i := 12) (N := some 95) (v := ?_) (a' := ?_) #[true, true, true, true, true, true, true, true, true, true, true, true, true, false, false, false, false, false, false, false, false, false, false, false, false, false, false, false, false, false, false, false] rfl rfl (take_ofW HT_.out HW_.out (by kernel_rfl)) (fun _ _ _ h => h) (Or.inl ⟨by rfl, ?_⟩) hHeld ?_ ?_
                   rotate_left
                   ·rintro w' ⟨s0, s1, s2⟩
                    go_simp
                    with_reducible rfl
                   rotate_left
                   ·simp only [Act.put, sI_, sZ_, sS_, i64_w, i32_w]
                    rfl
                   refine one_ (i := 13) (N := some 96) #[true, true, true, true, true, true, true, true, true, true, true, true, true, true, false, false, false, false, false, false, false, false, false, false, false, false, false, false, false, false, false, false] rfl rfl (one_of HT_.out (by kernel_rfl)) (by decide) (fun K hK => ?_)
                   refine goes_ Try.func62 (by kernel_rfl) rfl #[.int .i64 ((rd_T78 l0_3 x78_4).f2), .int .i64 0, .int .i64 256] (by rfl) rfl rfl (by (try simp only [mA_, mC_, mN_]); first | done | rfl | (simp only [lD_, lT_]; rfl)) ?_
                   with_reducible refine (impl_in.calls ((rd_T78 l0_3 x78_4).f2) 0 256 true _ A50.out).mono ?_
                   rintro e w' ⟨rfl, ⟨nd, rfl⟩⟩
                   refine ⟨_, rfl, ?_⟩
                   refine hK.out _ _ ⟨(kC_ BK186.out 0).trans rfl, (kC_ BK186.out 1).trans rfl, (kC_ BK186.out 2).trans rfl⟩ (fun hHeld => ?_)
                   clear hK K
                   refine norm_ (a' := ?_) ?_ ?_
                   rotate_left
                   ·show Act.put _ (some 96) _ = _
                    simp only [Act.put, sI_, sZ_, sS_, i64_w, i32_w]
                    rfl
                   refine pure_ (i := 14) (N := some 97) (v := ?_) (a' := ?_) #[true, true, true, true, true, true, true, true, true, true, true, true, true, true, true, false, false, false, false, false, false, false, false, false, false, false, false, false, false, false, false, false] rfl rfl (any_of HT_.out (by kernel_rfl)) (fun _ _ _ h => h) (Or.inl ⟨by rfl, ?_⟩) ?_ ?_
                   rotate_left
                   ·intro w'
                    go_simp
                    with_reducible rfl
                   rotate_left
                   ·simp only [Act.put, sI_, sZ_, sS_, i64_w, i32_w]
                    rfl
                   refine pure_ (i := 15) (N := some 98) (v := ?_) (a' := ?_) #[true, true, true, true, true, true, true, true, true, true, true, true, true, true, true, true, false, false, false, false, false, false, false, false, false, false, false, false, false, false, false, false] rfl rfl (any_of HT_.out (by kernel_rfl)) (fun _ _ _ h => h) (Or.inl ⟨by rfl, ?_⟩) ?_ ?_
                   rotate_left
                   ·intro w'
                    go_simp
                    with_reducible rfl
                   rotate_left
                   ·simp only [Act.put, sI_, sZ_, sS_, i64_w, i32_w]
                    rfl
                   refine pure_ (i := 16) (N := some 99) (v := ?_) (a' := ?_) #[true, true, true, true, true, true, true, true, true, true, true, true, true, true, true, true, true, false, false, false, false, false, false, false, false, false, false, false, false, false, false, false] rfl rfl (any_of HT_.out (by kernel_rfl)) (fun _ _ _ h => h) (Or.inl ⟨by rfl, ?_⟩) ?_ ?_
                   rotate_left
                   ·intro w'
                    go_simp
                    with_reducible rfl
                   rotate_left
                   ·simp only [Act.put, sI_, sZ_, sS_, i64_w, i32_w]
                    rfl
                   refine pure_ (i := 17) (N := some 100) (v := ?_) (a' := ?_) #[true, true, true, true, true, true, true, true, true, true, true, true, true, true, true, true, true, true, false, false, false, false, false, false, false, false, false, false, false, false, false, false] rfl rfl (any_of HT_.out (by kernel_rfl)) (fun _ _ _ h => h) (Or.inl ⟨by rfl, ?_⟩) ?_ ?_
                   rotate_left
                   ·intro w'
                    go_simp
                    with_reducible rfl
                   rotate_left
                   ·simp only [Act.put, sI_, sZ_, sS_, i64_w, i32_w]
                    rfl
                   refine pure_ (i := 18) (N := some 101) (v := ?_) (a' := ?_) #[true, true, true, true, true, true, true, true, true, true, true, true, true, true, true, true, true, true, true, false, false, false, false, false, false, false, false, false, false, false, false, false] rfl rfl (any_of HT_.out (by kernel_rfl)) (fun _ _ _ h => h) (Or.inl ⟨by rfl, ?_⟩) ?_ ?_
                   rotate_left
                   ·intro w'
                    go_simp
                    with_reducible rfl
                   rotate_left
                   ·simp only [Act.put, sI_, sZ_, sS_, i64_w, i32_w]
                    rfl
                   refine pure_ (i := 19) (N := some 102) (v := ?_) (a' := ?_) #[true, true, true, true, true, true, true, true, true, true, true, true, true, true, true, true, true, true, true, true, false, false, false, false, false, false, false, false, false, false, false, false] rfl rfl (any_of HT_.out (by kernel_rfl)) (fun _ _ _ h => h) (Or.inl ⟨by rfl, ?_⟩) ?_ ?_
                   rotate_left
                   ·intro w'
                    go_simp
                    with_reducible rfl
                   rotate_left
                   ·simp only [Act.put, sI_, sZ_, sS_, i64_w, i32_w]
                    rfl
                   refine pure_ (i := 20) (N := some 103) (v := undef) (a' := ?_) #[true, true, true, true, true, true, true, true, true, true, true, true, true, true, true, true, true, true, true, true, true, false, false, false, false, false, false, false, false, false, false, false] rfl rfl (any_of HT_.out (by kernel_rfl)) (fun _ _ _ h => h) (Or.inr ⟨by rfl, rfl⟩) ?_ ?_
                   rotate_left
                   ·simp only [Act.put, sI_, sZ_, sS_, i64_w, i32_w]
                    rfl
                   refine pure_ (i := 21) (N := some 104) (v := undef) (a' := ?_) #[true, true, true, true, true, true, true, true, true, true, true, true, true, true, true, true, true, true, true, true, true, true, false, false, false, false, false, false, false, false, false, false] rfl rfl (any_of HT_.out (by kernel_rfl)) (fun _ _ _ h => h) (Or.inr ⟨by rfl, rfl⟩) ?_ ?_
                   rotate_left
                   ·simp only [Act.put, sI_, sZ_, sS_, i64_w, i32_w]
                    rfl
                   refine pure_ (i := 22) (N := some 105) (v := undef) (a' := ?_) #[true, true, true, true, true, true, true, true, true, true, true, true, true, true, true, true, true, true, true, true, true, true, true, false, false, false, false, false, false, false, false, false] rfl rfl (any_of HT_.out (by kernel_rfl)) (fun _ _ _ h => h) (Or.inr ⟨by rfl, rfl⟩) ?_ ?_
                   rotate_left
                   ·simp only [Act.put, sI_, sZ_, sS_, i64_w, i32_w]
                    rfl
                   refine pure_ (i := 23) (N := some 106) (v := undef) (a' := ?_) #[true, true, true, true, true, true, true, true, true, true, true, true, true, true, true, true, true, true, true, true, true, true, true, true, false, false, false, false, false, false, false, false] rfl rfl (any_of HT_.out (by kernel_rfl)) (fun _ _ _ h => h) (Or.inr ⟨by rfl, rfl⟩) ?_ ?_
                   rotate_left
                   ·simp only [Act.put, sI_, sZ_, sS_, i64_w, i32_w]
                    rfl
                   refine pure_ (i := 24) (N := some 107) (v := undef) (a' := ?_) #[true, true, true, true, true, true, true, true, true, true, true, true, true, true, true, true, true, true, true, true, true, true, true, true, true, false, false, false, false, false, false, false] rfl rfl (any_of HT_.out (by kernel_rfl)) (fun _ _ _ h => h) (Or.inr ⟨by rfl, rfl⟩) ?_ ?_
                   rotate_left
                   ·simp only [Act.put, sI_, sZ_, sS_, i64_w, i32_w]
                    rfl
                   refine pure_ (i := 25) (N := some 108) (v := undef) (a' := ?_) #[true, true, true, true, true, true, true, true, true, true, true, true, true, true, true, true, true, true, true, true, true, true, true, true, true, true, false, false, false, false, false, false] rfl rfl (any_of HT_.out (by kernel_rfl)) (fun _ _ _ h => h) (Or.inr ⟨by rfl, rfl⟩) ?_ ?_
                   rotate_left
                   ·simp only [Act.put, sI_, sZ_, sS_, i64_w, i32_w]
                    rfl
                   refine pure_ (i := 26) (N := some 109) (v := undef) (a' := ?_) #[true, true, true, true, true, true, true, true, true, true, true, true, true, true, true, true, true, true, true, true, true, true, true, true, true, true, true, false, false, false, false, false] rfl rfl (any_of HT_.out (by kernel_rfl)) (fun _ _ _ h => h) (Or.inr ⟨by rfl, rfl⟩) ?_ ?_
                   rotate_left
                   ·simp only [Act.put, sI_, sZ_, sS_, i64_w, i32_w]
                    rfl
                   refine pure_ (i := 27) (N := some 110) (v := undef) (a' := ?_) #[true, true, true, true, true, true, true, true, true, true, true, true, true, true, true, true, true, true, true, true, true, true, true, true, true, true, true, true, false, false, false, false] rfl rfl (any_of HT_.out (by kernel_rfl)) (fun _ _ _ h => h) (Or.inr ⟨by rfl, rfl⟩) ?_ ?_
                   rotate_left
                   ·simp only [Act.put, sI_, sZ_, sS_, i64_w, i32_w]
                    rfl
                   refine pure_ (i := 28) (N := some 111) (v := undef) (a' := ?_) #[true, true, true, true, true, true, true, true, true, true, true, true, true, true, true, true, true, true, true, true, true, true, true, true, true, true, true, true, true, false, false, false] rfl rfl (any_of HT_.out (by kernel_rfl)) (fun _ _ _ h => h) (Or.inr ⟨by rfl, rfl⟩) ?_ ?_
                   rotate_left
                   ·simp only [Act.put, sI_, sZ_, sS_, i64_w, i32_w]
                    rfl
                   refine pure_ (i := 29) (N := some 112) (v := undef) (a' := ?_) #[true, true, true, true, true, true, true, true, true, true, true, true, true, true, true, true, true, true, true, true, true, true, true, true, true, true, true, true, true, true, false, false] rfl rfl (any_of HT_.out (by kernel_rfl)) (fun _ _ _ h => h) (Or.inr ⟨by rfl, rfl⟩) ?_ ?_
                   rotate_left
                   ·simp only [Act.put, sI_, sZ_, sS_, i64_w, i32_w]
                    rfl
                   refine pure_ (i := 30) (N := some 113) (v := ?_) (a' := ?_) #[true, true, true, true, true, true, true, true, true, true, true, true, true, true, true, true, true, true, true, true, true, true, true, true, true, true, true, true, true, true, true, false] rfl rfl (any_of HT_.out (by kernel_rfl)) (fun _ _ _ h => h) (Or.inl ⟨by rfl, ?_⟩) ?_ ?_
                   rotate_left
                   ·intro w'
                    go_simp
                    with_reducible rfl
                   rotate_left
                   ·simp only [Act.put, sI_, sZ_, sS_, i64_w, i32_w]
                    rfl
                   refine pure_ (i := 31) (N := some 114) (v := ?_) (a' := ?_) #[true, true, true, true, true, true, true, true, true, true, true, true, true, true, true, true, true, true, true, true, true, true, true, true, true, true, true, true, true, true, true, true] rfl rfl (any_of HT_.out (by kernel_rfl)) (fun _ _ _ h => h) (Or.inl ⟨by rfl, ?_⟩) ?_ ?_
                   rotate_left
                   ·intro w'
                    go_simp
                    with_reducible rfl
                   rotate_left
                   ·simp only [Act.put, sI_, sZ_, sS_, i64_w, i32_w]
                    rfl
                   refine done_ (done_of HT_.out (by kernel_rfl)) ?_
                   try go_wp2
                   go_roundg k4
                   case measure => have := HJ1.out; have := HK2.out; have := HK3.out; have := HK4.out; omega
                   case rel => exact ⟨(wrap64 (x78_4 + 1)), (by first | rfl | (simp; done) | (simp [*]; done)), H', ⟨by have := HJ1.out; have := HK2.out; have := HK3.out; have := HK4.out; omega⟩, ⟨by (with_reducible repeat (first | refine kN_ ?_ _ | refine kD_ ?_ | refine kA_ ?_ _)); exact BK178.out⟩, ⟨by repeat (first | (with_reducible first | exact HB.out | apply bA_ | apply bN_ | apply bD_ | refine bE_ ?_ GE178.out | refine bE_ ?_ GE186.out) | exact HB.out)⟩⟩
                 ·replace c51 := Bool.eq_false_iff.mpr c51
                  subst c51
                  have H1 : (some false) = some r := by rw [if_neg (show ¬ (false = true) by decide)] at H; exact H
                  clear H
                  have H := H1
                  clear H1
                  obtain rfl := Option.some.inj H
                  have p185 : 0 ≤ (x78_4 : Int) := oT_ (by first | (with_reducible assumption) | assumption)
                  have q185 : x78_4 < (l0_3.length : Int) := oT_ (by first | (with_reducible assumption) | assumption)
                  obtain ⟨ad185, e185, hx185_0, hx185_1, hx185_2⟩ := at_T78 HR0_3.out x78_4 p185 q185
                  cases e185
                  replace hx185_0 := (HB.out.cell (wL_ w _ hx185_0)).trans hx185_0
                  replace hx185_1 := (HB.out.cell (wL_ w _ hx185_1)).trans hx185_1
                  replace hx185_2 := (HB.out.cell (wL_ w _ hx185_2)).trans hx185_2
                  replace p185 := eq_true p185
                  replace q185 := eq_true q185
                  try go_wp2_with (first | ((with_reducible refine gate_dst (N := 8) rfl ?_); (try (refine gate_guard (by rfl) ?_; dsimp only)); refine box_event ?hg (N := 8) ?hd (cs := #[.int .i64 0, .int .i64 0, .int .i64 0]) (t := 78) ?hr ?_; (case hd => rfl); (case hg => rfl); (case hr => first | (go_simp; done) | (go_simp; rfl)); intro gb186 hg w72 hbox hb; have n0_ := aM_ (blk_below (g := gb178) (o := .cells #[.slice A0_0 l0_0.length c0_0, .slice A0_1 l0_1.length c0_1, .int .i64 a0_2, .slice (some ad185) l0_3.length c0_3, .bool a0_4] 32 (0, 0)) (by (with_reducible repeat (first | refine kN_ ?_ _ | refine kD_ ?_ | refine kA_ ?_ _)); exact BK178.out) hb); have n1_ := aM_ (bT_ (by repeat (first | (with_reducible first | exact HB.out | apply bA_ | apply bN_ | apply bD_ | refine bE_ ?_ GE178.out) | exact HB.out)) hb); have n2_ := aM_ (hbox); have n3_ := aM_ ((by rw [hg]; exact (bS_ (by repeat (first | (with_reducible first | exact HB.out | apply bA_ | apply bN_ | apply bD_ | refine bE_ ?_ GE178.out) | exact HB.out))) : w.heap.size ≤ gb186)); have n4_ := aM_ ((by rw [hg]; exact (bS_ (by repeat (first | (with_reducible first | exact HB.out | apply bA_ | apply bN_ | apply bD_ | refine bE_ ?_ GE178.out) | exact HB.out))) : w.heap.size ≤ gb186)); have n5_ := aM_ ((by rw [hg]; exact Nat.ne_of_lt (blk_lt (g := gb178) (o := .cells #[.slice A0_0 l0_0.length c0_0, .slice A0_1 l0_1.length c0_1, .int .i64 a0_2, .slice (some ad185) l0_3.length c0_3, .bool a0_4] 32 (0, 0)) (by (with_reducible repeat (first | refine kN_ ?_ _ | refine kD_ ?_ | refine kA_ ?_ _)); exact BK178.out)) : gb178 ≠ gb186)); have n6_ := aM_ ((by rw [hg]; exact Nat.ne_of_gt (blk_lt (g := gb178) (o := .cells #[.slice A0_0 l0_0.length c0_0, .slice A0_1 l0_1.length c0_1, .int .i64 a0_2, .slice (some ad185) l0_3.length c0_3, .bool a0_4] 32 (0, 0)) (by (with_reducible repeat (first | refine kN_ ?_ _ | refine kD_ ?_ | refine kA_ ?_ _)); exact BK178.out)) : gb186 ≠ gb178)); clear BK178; clear HB; have BK178 := n0_; have HB := n1_; have BK186 := n2_; have GW186 := n3_; have GE186 := n4_; have NB178_186 := n5_; have NB186_178 := n6_; clear n0_ n1_ n2_ n3_ n4_ n5_ n6_; clear hb hbox hg; have hnb73 := NB186_178.out; have hnc73 := NB178_186.out; have hcz74_0 : w72.cell? ⟨gb186, 0, none⟩ = some (.int .i64 0) := (kC_ BK186.out 0).trans rfl; have hcz74_1 : w72.cell? ⟨gb186, 1, none⟩ = some (.int .i64 0) := (kC_ BK186.out 1).trans rfl; have hcz74_2 : w72.cell? ⟨gb186, 2, none⟩ = some (.int .i64 0) := (kC_ BK186.out 2).trans rfl; have hfz74_0 := kF_ BK186.out 0; have hfz74_1 := kF_ BK186.out 1; have hfz74_2 := kF_ BK186.out 2))
                  have n0_ : Aside0 ((((w72.setCell ⟨gb186, 0, none⟩ (.int .i64 ((rd_T78 l0_3 x78_4).f0))).setCell ⟨gb186, 1, none⟩ (.int .i64 ((rd_T78 l0_3 x78_4).f1))).setCell ⟨gb186, 2, none⟩ (.int .i64 ((rd_T78 l0_3 x78_4).f2))).heap[gb178]? = some (.cells #[.slice A0_0 l0_0.length c0_0, .slice A0_1 l0_1.length c0_1, .int .i64 a0_2, .slice (some ad185) l0_3.length c0_3, .bool a0_4] 32 (0, 0))) := ⟨by (with_reducible repeat (first | refine kN_ ?_ _ | refine kD_ ?_ | refine kA_ ?_ _)); refine blk_far ?_ NB178_186.out _; (with_reducible repeat (first | refine kN_ ?_ _ | refine kD_ ?_ | refine kA_ ?_ _)); refine blk_far ?_ NB178_186.out _; (with_reducible repeat (first | refine kN_ ?_ _ | refine kD_ ?_ | refine kA_ ?_ _)); refine blk_far ?_ NB178_186.out _; (with_reducible repeat (first | refine kN_ ?_ _ | refine kD_ ?_ | refine kA_ ?_ _)); exact BK178.out⟩
                  have n1_ : Aside0 ((((w72.setCell ⟨gb186, 0, none⟩ (.int .i64 ((rd_T78 l0_3 x78_4).f0))).setCell ⟨gb186, 1, none⟩ (.int .i64 ((rd_T78 l0_3 x78_4).f1))).setCell ⟨gb186, 2, none⟩ (.int .i64 ((rd_T78 l0_3 x78_4).f2))).heap[gb186]? = some (.cells #[.int .i64 ((rd_T78 l0_3 x78_4).f0), .int .i64 ((rd_T78 l0_3 x78_4).f1), .int .i64 ((rd_T78 l0_3 x78_4).f2)] 78 (0, 0))) := ⟨by (with_reducible repeat (first | refine kN_ ?_ _ | refine kD_ ?_ | refine kA_ ?_ _)); refine kP_ (cs := #[.int .i64 ((rd_T78 l0_3 x78_4).f0), .int .i64 ((rd_T78 l0_3 x78_4).f1), .int .i64 0]) ?_ 2 _ rfl; (with_reducible repeat (first | refine kN_ ?_ _ | refine kD_ ?_ | refine kA_ ?_ _)); refine kP_ (cs := #[.int .i64 ((rd_T78 l0_3 x78_4).f0), .int .i64 0, .int .i64 0]) ?_ 1 _ rfl; (with_reducible repeat (first | refine kN_ ?_ _ | refine kD_ ?_ | refine kA_ ?_ _)); refine kP_ (cs := #[.int .i64 0, .int .i64 0, .int .i64 0]) ?_ 0 _ rfl; (with_reducible repeat (first | refine kN_ ?_ _ | refine kD_ ?_ | refine kA_ ?_ _)); exact BK186.out⟩
                  have n2_ : Aside0 (Below w.heap.size w (((w72.setCell ⟨gb186, 0, none⟩ (.int .i64 ((rd_T78 l0_3 x78_4).f0))).setCell ⟨gb186, 1, none⟩ (.int .i64 ((rd_T78 l0_3 x78_4).f1))).setCell ⟨gb186, 2, none⟩ (.int .i64 ((rd_T78 l0_3 x78_4).f2)))) := ⟨by repeat (first | (with_reducible first | exact HB.out | apply bA_ | apply bN_ | apply bD_ | refine bE_ ?_ GE178.out | refine bE_ ?_ GE186.out) | exact HB.out)⟩
                  (try clear BK178)
                  (try clear BK186)
                  (try clear HB)
                  generalize (((w72.setCell ⟨gb186, 0, none⟩ (.int .i64 ((rd_T78 l0_3 x78_4).f0))).setCell ⟨gb186, 1, none⟩ (.int .i64 ((rd_T78 l0_3 x78_4).f1))).setCell ⟨gb186, 2, none⟩ (.int .i64 ((rd_T78 l0_3 x78_4).f2))) = w75 at n0_ n1_ n2_ ⊢
                  have BK178 := n0_
                  have BK186 := n1_
                  have HB := n2_
                  clear n0_ n1_ n2_
                  have n0_ := aM_ (kD_ BK178.out)
                  have n1_ := aM_ (kD_ BK186.out)
                  have n2_ := aM_ (bD_ HB.out)
                  clear BK178
                  clear BK186
                  clear HB
                  have BK178 := n0_
                  have BK186 := n1_
                  have HB := n2_
                  clear n0_ n1_ n2_
                  refine start_ (n := 32) (S := fun w' => w'.cell? ⟨gb186, 0, none⟩ = some (.int .i64 ((rd_T78 l0_3 x78_4).f0)) ∧ w'.cell? ⟨gb186, 1, none⟩ = some (.int .i64 ((rd_T78 l0_3 x78_4).f1)) ∧ w'.cell? ⟨gb186, 2, none⟩ = some (.int .i64 ((rd_T78 l0_3 x78_4).f2))) (ds := []) #[false, false, false, false, false, false, false, false, false, false, false, false, false, false, false, false, false, false, false, false, false, false, false, false, false, false, false, false, false, false, false, false] (by kernel_rfl) rfl rfl ⟨(kC_ BK186.out 0).trans rfl, (kC_ BK186.out 1).trans rfl, (kC_ BK186.out 2).trans rfl⟩ (fun hHeld => ?_); refine with_tabW impl_DiskOk.tab18 impl_DiskOk.bits18 (fun HT_ HW_ => ?_)
                  generalize w75.drew = w76 at BK178 BK186 HB hHeld ⊢
                  refine pure_ (i := 0) (N := some 83) (v := ?_) (a' := ?_) #[true, false, false, false, false, false, false, false, false, false, false, false, false, false, false, false, false, false, false, false, false, false, false, false, false, false, false, false, false, false, false, false] rfl rfl (any_of HT_.out (by kernel_rfl)) (fun _ _ _ h => h) (Or.inl ⟨by rfl, ?_⟩) ?_ ?_
                  rotate_left
                  ·intro w'
                   go_simp
                   with_reducible rfl
                  rotate_left
                  ·simp only [Act.put, sI_, sZ_, sS_, i64_w, i32_w]
                   rfl
                  refine take_ (i := 1) (N := some 84) (v := ?_) (a' := ?_) #[true, true, false, false, false, false, false, false, false, false, false, false, false, false, false, false, false, false, false, false, false, false, false, false, false, false, false, false, false, false, false, false] rfl rfl (take_ofW HT_.out HW_.out (by kernel_rfl)) (fun _ _ _ h => h) (Or.inl ⟨by rfl, ?_⟩) hHeld ?_ ?_
                  rotate_left
                  ·rintro w' ⟨s0, s1, s2⟩
                   go_simp
                   with_reducible rfl
                  rotate_left
                  ·simp only [Act.put, sI_, sZ_, sS_, i64_w, i32_w]
                   rfl
                  refine one_ (i := 2) (N := some 85) #[true, true, true, false, false, false, false, false, false, false, false, false, false, false, false, false, false, false, false, false, false, false, false, false, false, false, false, false, false, false, false, false] rfl rfl (one_of HT_.out (by kernel_rfl)) (by decide) (fun K hK => ?_)
                  refine goes_ Try.func62 (by kernel_rfl) rfl #[.int .i64 ((rd_T78 l0_3 x78_4).f0), .int .i64 0, .int .i64 100000] (by rfl) rfl rfl (by (try simp only [mA_, mC_, mN_]); first | done | rfl | (simp only [lD_, lT_]; rfl)) ?_
                  with_reducible refine (impl_in.calls ((rd_T78 l0_3 x78_4).f0) 0 100000 true _ A46.out).mono ?_
                  rintro e w' ⟨rfl, ⟨nd, rfl⟩⟩
                  refine ⟨_, rfl, ?_⟩
                  refine hK.out _ _ ⟨(kC_ BK186.out 0).trans rfl, (kC_ BK186.out 1).trans rfl, (kC_ BK186.out 2).trans rfl⟩ (fun hHeld => ?_)
                  clear hK K
                  refine norm_ (a' := ?_) ?_ ?_
                  rotate_left
                  ·show Act.put _ (some 85) _ = _
                   simp only [Act.put, sI_, sZ_, sS_, i64_w, i32_w]
                   rfl
                  refine pure_ (i := 3) (N := some 86) (v := ?_) (a' := ?_) #[true, true, true, true, false, false, false, false, false, false, false, false, false, false, false, false, false, false, false, false, false, false, false, false, false, false, false, false, false, false, false, false] rfl rfl (any_of HT_.out (by kernel_rfl)) (fun _ _ _ h => h) (Or.inl ⟨by rfl, ?_⟩) ?_ ?_
                  rotate_left
                  ·intro w'
                   go_simp
                   with_reducible rfl
                  rotate_left
                  ·simp only [Act.put, sI_, sZ_, sS_, i64_w, i32_w]
                   rfl
                  refine pure_ (i := 4) (N := some 87) (v := ?_) (a' := ?_) #[true, true, true, true, true, false, false, false, false, false, false, false, false, false, false, false, false, false, false, false, false, false, false, false, false, false, false, false, false, false, false, false] rfl rfl (any_of HT_.out (by kernel_rfl)) (fun _ _ _ h => h) (Or.inl ⟨by rfl, ?_⟩) ?_ ?_
                  rotate_left
                  ·intro w'
                   go_simp
                   with_reducible rfl
                  rotate_left
                  ·simp only [Act.put, sI_, sZ_, sS_, i64_w, i32_w]
                   rfl
                  refine pure_ (i := 5) (N := some 88) (v := ?_) (a' := ?_) #[true, true, true, true, true, true, false, false, false, false, false, false, false, false, false, false, false, false, false, false, false, false, false, false, false, false, false, false, false, false, false, false] rfl rfl (any_of HT_.out (by kernel_rfl)) (fun _ _ _ h => h) (Or.inl ⟨by rfl, ?_⟩) ?_ ?_
                  rotate_left
                  ·intro w'
                   go_simp
                   with_reducible rfl
                  rotate_left
                  ·simp only [Act.put, sI_, sZ_, sS_, i64_w, i32_w]
                   rfl
                  refine take_ (i := 6) (N := some 89) (v := ?_) (a' := ?_) #[true, true, true, true, true, true, true, false, false, false, false, false, false, false, false, false, false, false, false, false, false, false, false, false, false, false, false, false, false, false, false, false] rfl rfl (take_ofW HT_.out HW_.out (by kernel_rfl)) (fun _ _ _ h => h) (Or.inl ⟨by rfl, ?_⟩) hHeld ?_ ?_
                  rotate_left
                  ·rintro w' ⟨s0, s1, s2⟩
                   go_simp
                   with_reducible rfl
                  rotate_left
                  ·simp only [Act.put, sI_, sZ_, sS_, i64_w, i32_w]
                   rfl
                  refine one_ (i := 7) (N := some 90) #[true, true, true, true, true, true, true, true, false, false, false, false, false, false, false, false, false, false, false, false, false, false, false, false, false, false, false, false, false, false, false, false] rfl rfl (one_of HT_.out (by kernel_rfl)) (by decide) (fun K hK => ?_)
                  refine goes_ Try.func62 (by kernel_rfl) rfl #[.int .i64 ((rd_T78 l0_3 x78_4).f1), .int .i64 0, .int .i64 1048575] (by rfl) rfl rfl (by (try simp only [mA_, mC_, mN_]); first | done | rfl | (simp only [lD_, lT_]; rfl)) ?_
                  with_reducible refine (impl_in.calls ((rd_T78 l0_3 x78_4).f1) 0 1048575 true _ A48.out).mono ?_
                  rintro e w' ⟨rfl, ⟨nd, rfl⟩⟩
                  refine ⟨_, rfl, ?_⟩
                  refine hK.out _ _ ⟨(kC_ BK186.out 0).trans rfl, (kC_ BK186.out 1).trans rfl, (kC_ BK186.out 2).trans rfl⟩ (fun hHeld => ?_)
                  clear hK K
                  refine norm_ (a' := ?_) ?_ ?_
                  rotate_left
                  ·show Act.put _ (some 90) _ = _
                   simp only [Act.put, sI_, sZ_, sS_, i64_w, i32_w]
                   rfl
                  refine pure_ (i := 8) (N := some 91) (v := ?_) (a' := ?_) #[true, true, true, true, true, true, true, true, true, false, false, false, false, false, false, false, false, false, false, false, false, false, false, false, false, false, false, false, false, false, false, false] rfl rfl (any_of HT_.out (by kernel_rfl)) (fun _ _ _ h => h) (Or.inl ⟨by rfl, ?_⟩) ?_ ?_
                  rotate_left
                  ·intro w'
                   go_simp
                   with_reducible rfl
                  rotate_left
                  ·simp only [Act.put, sI_, sZ_, sS_, i64_w, i32_w]
                   rfl
                  refine pure_ (i := 9) (N := some 92) (v := ?_) (a' := ?_) #[true, true, true, true, true, true, true, true, true, true, false, false, false, false, false, false, false, false, false, false, false, false, false, false, false, false, false, false, false, false, false, false] rfl rfl (any_of HT_.out (by kernel_rfl)) (fun _ _ _ h => h) (Or.inl ⟨by rfl, ?_⟩) ?_ ?_
                  rotate_left
                  ·intro w'
                   go_simp
                   with_reducible rfl
                  rotate_left
                  ·simp only [Act.put, sI_, sZ_, sS_, i64_w, i32_w]
                   rfl
                  refine pure_ (i := 10) (N := some 93) (v := ?_) (a' := ?_) #[true, true, true, true, true, true, true, true, true, true, true, false, false, false, false, false, false, false, false, false, false, false, false, false, false, false, false, false, false, false, false, false] rfl rfl (any_of HT_.out (by kernel_rfl)) (fun _ _ _ h => h) (Or.inl ⟨by rfl, ?_⟩) ?_ ?_
                  rotate_left
                  ·intro w'
                   go_simp
                   with_reducible rfl
                  rotate_left
                  ·simp only [Act.put, sI_, sZ_, sS_, i64_w, i32_w]
                   rfl
                  refine pure_ (i := 11) (N := some 94) (v := ?_) (a' := ?_) #[true, true, true, true, true, true, true, true, true, true, true, true, false, false, false, false, false, false, false, false, false, false, false, false, false, false, false, false, false, false, false, false] rfl rfl (any_of HT_.out (by kernel_rfl)) (fun _ _ _ h => h) (Or.inl ⟨by rfl, ?_⟩) ?_ ?_
                  rotate_left
                  ·intro w'
                   go_simp
                   with_reducible rfl
                  rotate_left
                  ·simp only [Act.put, sI_, sZ_, sS_, i64_w, i32_w]
                   rfl
                  refine take_ (i := 12) (N := some 95) (v := ?_) (a' := ?_) #[true, true, true, true, true, true, true, true, true, true, true, true, true, false, false, false, false, false, false, false, false, false, false, false, false, false, false, false, false, false, false, false] rfl rfl (take_ofW HT_.out HW_.out (by kernel_rfl)) (fun _ _ _ h => h) (Or.inl ⟨by rfl, ?_⟩) hHeld ?_ ?_
                  rotate_left
                  ·rintro w' ⟨s0, s1, s2⟩
                   go_simp
                   with_reducible rfl
                  rotate_left
                  ·simp only [Act.put, sI_, sZ_, sS_, i64_w, i32_w]
                   rfl
                  refine one_ (i := 13) (N := some 96) #[true, true, true, true, true, true, true, true, true, true, true, true, true, true, false, false, false, false, false, false, false, false, false, false, false, false, false, false, false, false, false, false] rfl rfl (one_of HT_.out (by kernel_rfl)) (by decide) (fun K hK => ?_)
                  refine goes_ Try.func62 (by kernel_rfl) rfl #[.int .i64 ((rd_T78 l0_3 x78_4).f2), .int .i64 0, .int .i64 256] (by rfl) rfl rfl (by (try simp only [mA_, mC_, mN_]); first | done | rfl | (simp only [lD_, lT_]; rfl)) ?_
                  with_reducible refine (impl_in.calls ((rd_T78 l0_3 x78_4).f2) 0 256 false _ A50.out).mono ?_
                  rintro e w' ⟨rfl, ⟨nd, rfl⟩⟩
                  refine ⟨_, rfl, ?_⟩
                  refine hK.out _ _ ⟨(kC_ BK186.out 0).trans rfl, (kC_ BK186.out 1).trans rfl, (kC_ BK186.out 2).trans rfl⟩ (fun hHeld => ?_)
                  clear hK K
                  refine norm_ (a' := ?_) ?_ ?_
                  rotate_left
                  ·show Act.put _ (some 96) _ = _
                   simp only [Act.put, sI_, sZ_, sS_, i64_w, i32_w]
                   rfl
                  refine pure_ (i := 14) (N := some 97) (v := ?_) (a' := ?_) #[true, true, true, true, true, true, true, true, true, true, true, true, true, true, true, false, false, false, false, false, false, false, false, false, false, false, false, false, false, false, false, false] rfl rfl (any_of HT_.out (by kernel_rfl)) (fun _ _ _ h => h) (Or.inl ⟨by rfl, ?_⟩) ?_ ?_
                  rotate_left
                  ·intro w'
                   go_simp
                   with_reducible rfl
                  rotate_left
                  ·simp only [Act.put, sI_, sZ_, sS_, i64_w, i32_w]
                   rfl
                  refine pure_ (i := 15) (N := some 98) (v := ?_) (a' := ?_) #[true, true, true, true, true, true, true, true, true, true, true, true, true, true, true, true, false, false, false, false, false, false, false, false, false, false, false, false, false, false, false, false] rfl rfl (any_of HT_.out (by kernel_rfl)) (fun _ _ _ h => h) (Or.inl ⟨by rfl, ?_⟩) ?_ ?_
                  rotate_left
                  ·intro w'
                   go_simp
                   with_reducible rfl
                  rotate_left
                  ·simp only [Act.put, sI_, sZ_, sS_, i64_w, i32_w]
                   rfl
                  refine pure_ (i := 16) (N := some 99) (v := ?_) (a' := ?_) #[true, true, true, true, true, true, true, true, true, true, true, true, true, true, true, true, true, false, false, false, false, false, false, false, false, false, false, false, false, false, false, false] rfl rfl (any_of HT_.out (by kernel_rfl)) (fun _ _ _ h => h) (Or.inl ⟨by rfl, ?_⟩) ?_ ?_
                  rotate_left
                  ·intro w'
                   go_simp
                   with_reducible rfl
                  rotate_left
                  ·simp only [Act.put, sI_, sZ_, sS_, i64_w, i32_w]
                   rfl
                  refine pure_ (i := 17) (N := some 100) (v := undef) (a' := ?_) #[true, true, true, true, true, true, true, true, true, true, true, true, true, true, true, true, true, true, false, false, false, false, false, false, false, false, false, false, false, false, false, false] rfl rfl (any_of HT_.out (by kernel_rfl)) (fun _ _ _ h => h) (Or.inr ⟨by rfl, rfl⟩) ?_ ?_
                  rotate_left
                  ·simp only [Act.put, sI_, sZ_, sS_, i64_w, i32_w]
                   rfl
                  refine pure_ (i := 18) (N := some 101) (v := undef) (a' := ?_) #[true, true, true, true, true, true, true, true, true, true, true, true, true, true, true, true, true, true, true, false, false, false, false, false, false, false, false, false, false, false, false, false] rfl rfl (any_of HT_.out (by kernel_rfl)) (fun _ _ _ h => h) (Or.inr ⟨by rfl, rfl⟩) ?_ ?_
                  rotate_left
                  ·simp only [Act.put, sI_, sZ_, sS_, i64_w, i32_w]
                   rfl
                  refine pure_ (i := 19) (N := some 102) (v := undef) (a' := ?_) #[true, true, true, true, true, true, true, true, true, true, true, true, true, true, true, true, true, true, true, true, false, false, false, false, false, false, false, false, false, false, false, false] rfl rfl (any_of HT_.out (by kernel_rfl)) (fun _ _ _ h => h) (Or.inr ⟨by rfl, rfl⟩) ?_ ?_
                  rotate_left
                  ·simp only [Act.put, sI_, sZ_, sS_, i64_w, i32_w]
                   rfl
                  refine pure_ (i := 20) (N := some 103) (v := undef) (a' := ?_) #[true, true, true, true, true, true, true, true, true, true, true, true, true, true, true, true, true, true, true, true, true, false, false, false, false, false, false, false, false, false, false, false] rfl rfl (any_of HT_.out (by kernel_rfl)) (fun _ _ _ h => h) (Or.inr ⟨by rfl, rfl⟩) ?_ ?_
                  rotate_left
                  ·simp only [Act.put, sI_, sZ_, sS_, i64_w, i32_w]
                   rfl
                  refine pure_ (i := 21) (N := some 104) (v := undef) (a' := ?_) #[true, true, true, true, true, true, true, true, true, true, true, true, true, true, true, true, true, true, true, true, true, true, false, false, false, false, false, false, false, false, false, false] rfl rfl (any_of HT_.out (by kernel_rfl)) (fun _ _ _ h => h) (Or.inr ⟨by rfl, rfl⟩) ?_ ?_
                  rotate_left
                  ·simp only [Act.put, sI_, sZ_, sS_, i64_w, i32_w]
                   rfl
                  refine pure_ (i := 22) (N := some 105) (v := undef) (a' := ?_) #[true, true, true, true, true, true, true, true, true, true, true, true, true, true, true, true, true, true, true, true, true, true, true, false, false, false, false, false, false, false, false, false] rfl rfl (any_of HT_.out (by kernel_rfl)) (fun _ _ _ h => h) (Or.inr ⟨by rfl, rfl⟩) ?_ ?_
                  rotate_left
                  ·simp only [Act.put, sI_, sZ_, sS_, i64_w, i32_w]
                   rfl
                  refine pure_ (i := 23) (N := some 106) (v := undef) (a' := ?_) #[true, true, true, true, true, true, true, true, true, true, true, true, true, true, true, true, true, true, true, true, true, true, true, true, false, false, false, false, false, false, false, false] rfl rfl (any_of HT_.out (by kernel_rfl)) (fun _ _ _ h => h) (Or.inr ⟨by rfl, rfl⟩) ?_ ?_
                  rotate_left
                  ·simp only [Act.put, sI_, sZ_, sS_, i64_w, i32_w]
                   rfl
                  refine pure_ (i := 24) (N := some 107) (v := undef) (a' := ?_) #[true, true, true, true, true, true, true, true, true, true, true, true, true, true, true, true, true, true, true, true, true, true, true, true, true, false, false, false, false, false, false, false] rfl rfl (any_of HT_.out (by kernel_rfl)) (fun _ _ _ h => h) (Or.inr ⟨by rfl, rfl⟩) ?_ ?_
                  rotate_left
                  ·simp only [Act.put, sI_, sZ_, sS_, i64_w, i32_w]
                   rfl
                  refine pure_ (i := 25) (N := some 108) (v := undef) (a' := ?_) #[true, true, true, true, true, true, true, true, true, true, true, true, true, true, true, true, true, true, true, true, true, true, true, true, true, true, false, false, false, false, false, false] rfl rfl (any_of HT_.out (by kernel_rfl)) (fun _ _ _ h => h) (Or.inr ⟨by rfl, rfl⟩) ?_ ?_
                  rotate_left
                  ·simp only [Act.put, sI_, sZ_, sS_, i64_w, i32_w]
                   rfl
                  refine pure_ (i := 26) (N := some 109) (v := undef) (a' := ?_) #[true, true, true, true, true, true, true, true, true, true, true, true, true, true, true, true, true, true, true, true, true, true, true, true, true, true, true, false, false, false, false, false] rfl rfl (any_of HT_.out (by kernel_rfl)) (fun _ _ _ h => h) (Or.inr ⟨by rfl, rfl⟩) ?_ ?_
                  rotate_left
                  ·simp only [Act.put, sI_, sZ_, sS_, i64_w, i32_w]
                   rfl
                  refine pure_ (i := 27) (N := some 110) (v := undef) (a' := ?_) #[true, true, true, true, true, true, true, true, true, true, true, true, true, true, true, true, true, true, true, true, true, true, true, true, true, true, true, true, false, false, false, false] rfl rfl (any_of HT_.out (by kernel_rfl)) (fun _ _ _ h => h) (Or.inr ⟨by rfl, rfl⟩) ?_ ?_
                  rotate_left
                  ·simp only [Act.put, sI_, sZ_, sS_, i64_w, i32_w]
                   rfl
                  refine pure_ (i := 28) (N := some 111) (v := undef) (a' := ?_) #[true, true, true, true, true, true, true, true, true, true, true, true, true, true, true, true, true, true, true, true, true, true, true, true, true, true, true, true, true, false, false, false] rfl rfl (any_of HT_.out (by kernel_rfl)) (fun _ _ _ h => h) (Or.inr ⟨by rfl, rfl⟩) ?_ ?_
                  rotate_left
                  ·simp only [Act.put, sI_, sZ_, sS_, i64_w, i32_w]
                   rfl
                  refine pure_ (i := 29) (N := some 112) (v := undef) (a' := ?_) #[true, true, true, true, true, true, true, true, true, true, true, true, true, true, true, true, true, true, true, true, true, true, true, true, true, true, true, true, true, true, false, false] rfl rfl (any_of HT_.out (by kernel_rfl)) (fun _ _ _ h => h) (Or.inr ⟨by rfl, rfl⟩) ?_ ?_
                  rotate_left
                  ·simp only [Act.put, sI_, sZ_, sS_, i64_w, i32_w]
                   rfl
                  refine pure_ (i := 30) (N := some 113) (v := undef) (a' := ?_) #[true, true, true, true, true, true, true, true, true, true, true, true, true, true, true, true, true, true, true, true, true, true, true, true, true, true, true, true, true, true, true, false] rfl rfl (any_of HT_.out (by kernel_rfl)) (fun _ _ _ h => h) (Or.inr ⟨by rfl, rfl⟩) ?_ ?_
                  rotate_left
                  ·simp only [Act.put, sI_, sZ_, sS_, i64_w, i32_w]
                   rfl
                  refine pure_ (i := 31) (N := some 114) (v := ?_) (a' := ?_) #[true, true, true, true, true, true, true, true, true, true, true, true, true, true, true, true, true, true, true, true, true, true, true, true, true, true, true, true, true, true, true, true] rfl rfl (any_of HT_.out (by kernel_rfl)) (fun _ _ _ h => h) (Or.inl ⟨by rfl, ?_⟩) ?_ ?_
                  rotate_left
                  ·intro w'
                   go_simp
                   with_reducible rfl
                  rotate_left
                  ·simp only [Act.put, sI_, sZ_, sS_, i64_w, i32_w]
                   rfl
                  refine done_ (done_of HT_.out (by kernel_rfl)) ?_
                  try go_wp2
                  go_ret
                  exact ⟨by first | rfl | (simp [errW_none, errW_some] <;> rfl) | (simp [*, errW_none, errW_some] <;> rfl), by repeat (first | (with_reducible first | exact HB.out | apply bA_ | apply bN_ | apply bD_ | refine bE_ ?_ GE178.out | refine bE_ ?_ GE186.out) | exact HB.out)⟩
                ·replace c49 := Bool.eq_false_iff.mpr c49
                 subst c49
                 have H1 : (some false) = some r := by rw [if_neg (show ¬ (false = true) by decide)] at H; exact H
                 clear H
                 have H := H1
                 clear H1
                 obtain rfl := Option.some.inj H
                 have p185 : 0 ≤ (x78_4 : Int) := oT_ (by first | (with_reducible assumption) | assumption)
                 have q185 : x78_4 < (l0_3.length : Int) := oT_ (by first | (with_reducible assumption) | assumption)
                 obtain ⟨ad185, e185, hx185_0, hx185_1, hx185_2⟩ := at_T78 HR0_3.out x78_4 p185 q185
                 cases e185
                 replace hx185_0 := (HB.out.cell (wL_ w _ hx185_0)).trans hx185_0
                 replace hx185_1 := (HB.out.cell (wL_ w _ hx185_1)).trans hx185_1
                 replace hx185_2 := (HB.out.cell (wL_ w _ hx185_2)).trans hx185_2
                 replace p185 := eq_true p185
                 replace q185 := eq_true q185
                 try go_wp2_with (first | ((with_reducible refine gate_dst (N := 8) rfl ?_); (try (refine gate_guard (by rfl) ?_; dsimp only)); refine box_event ?hg (N := 8) ?hd (cs := #[.int .i64 0, .int .i64 0, .int .i64 0]) (t := 78) ?hr ?_; (case hd => rfl); (case hg => rfl); (case hr => first | (go_simp; done) | (go_simp; rfl)); intro gb186 hg w77 hbox hb; have n0_ := aM_ (blk_below (g := gb178) (o := .cells #[.slice A0_0 l0_0.length c0_0, .slice A0_1 l0_1.length c0_1, .int .i64 a0_2, .slice (some ad185) l0_3.length c0_3, .bool a0_4] 32 (0, 0)) (by (with_reducible repeat (first | refine kN_ ?_ _ | refine kD_ ?_ | refine kA_ ?_ _)); exact BK178.out) hb); have n1_ := aM_ (bT_ (by repeat (first | (with_reducible first | exact HB.out | apply bA_ | apply bN_ | apply bD_ | refine bE_ ?_ GE178.out) | exact HB.out)) hb); have n2_ := aM_ (hbox); have n3_ := aM_ ((by rw [hg]; exact (bS_ (by repeat (first | (with_reducible first | exact HB.out | apply bA_ | apply bN_ | apply bD_ | refine bE_ ?_ GE178.out) | exact HB.out))) : w.heap.size ≤ gb186)); have n4_ := aM_ ((by rw [hg]; exact (bS_ (by repeat (first | (with_reducible first | exact HB.out | apply bA_ | apply bN_ | apply bD_ | refine bE_ ?_ GE178.out) | exact HB.out))) : w.heap.size ≤ gb186)); have n5_ := aM_ ((by rw [hg]; exact Nat.ne_of_lt (blk_lt (g := gb178) (o := .cells #[.slice A0_0 l0_0.length c0_0, .slice A0_1 l0_1.length c0_1, .int .i64 a0_2, .slice (some ad185) l0_3.length c0_3, .bool a0_4] 32 (0, 0)) (by (with_reducible repeat (first | refine kN_ ?_ _ | refine kD_ ?_ | refine kA_ ?_ _)); exact BK178.out)) : gb178 ≠ gb186)); have n6_ := aM_ ((by rw [hg]; exact Nat.ne_of_gt (blk_lt (g := gb178) (o := .cells #[.slice A0_0 l0_0.length c0_0, .slice A0_1 l0_1.length c0_1, .int .i64 a0_2, .slice (some ad185) l0_3.length c0_3, .bool a0_4] 32 (0, 0)) (by (with_reducible repeat (first | refine kN_ ?_ _ | refine kD_ ?_ | refine kA_ ?_ _)); exact BK178.out)) : gb186 ≠ gb178)); clear BK178; clear HB; have BK178 := n0_; have HB := n1_; have BK186 := n2_; have GW186 := n3_; have GE186 := n4_; have NB178_186 := n5_; have NB186_178 := n6_; clear n0_ n1_ n2_ n3_ n4_ n5_ n6_; clear hb hbox hg; have hnb78 := NB186_178.out; have hnc78 := NB178_186.out; have hcz79_0 : w77.cell? ⟨gb186, 0, none⟩ = some (.int .i64 0) := (kC_ BK186.out 0).trans rfl; have hcz79_1 : w77.cell? ⟨gb186, 1, none⟩ = some (.int .i64 0) := (kC_ BK186.out 1).trans rfl; have hcz79_2 : w77.cell? ⟨gb186, 2, none⟩ = some (.int .i64 0) := (kC_ BK186.out 2).trans rfl; have hfz79_0 := kF_ BK186.out 0; have hfz79_1 := kF_ BK186.out 1; have hfz79_2 := kF_ BK186.out 2))
                 have n0_ : Aside0 ((((w77.setCell ⟨gb186, 0, none⟩ (.int .i64 ((rd_T78 l0_3 x78_4).f0))).setCell ⟨gb186, 1, none⟩ (.int .i64 ((rd_T78 l0_3 x78_4).f1))).setCell ⟨gb186, 2, none⟩ (.int .i64 ((rd_T78 l0_3 x78_4).f2))).heap[gb178]? = some (.cells #[.slice A0_0 l0_0.length c0_0, .slice A0_1 l0_1.length c0_1, .int .i64 a0_2, .slice (some ad185) l0_3.length c0_3, .bool a0_4] 32 (0, 0))) := ⟨by (with_reducible repeat (first | refine kN_ ?_ _ | refine kD_ ?_ | refine kA_ ?_ _)); refine blk_far ?_ NB178_186.out _; (with_reducible repeat (first | refine kN_ ?_ _ | refine kD_ ?_ | refine kA_ ?_ _)); refine blk_far ?_ NB178_186.out _; (with_reducible repeat (first | refine kN_ ?_ _ | refine kD_ ?_ | refine kA_ ?_ _)); refine blk_far ?_ NB178_186.out _; (with_reducible repeat (first | refine kN_ ?_ _ | refine kD_ ?_ | refine kA_ ?_ _)); exact BK178.out⟩
                 have n1_ : Aside0 ((((w77.setCell ⟨gb186, 0, none⟩ (.int .i64 ((rd_T78 l0_3 x78_4).f0))).setCell ⟨gb186, 1, none⟩ (.int .i64 ((rd_T78 l0_3 x78_4).f1))).setCell ⟨gb186, 2, none⟩ (.int .i64 ((rd_T78 l0_3 x78_4).f2))).heap[gb186]? = some (.cells #[.int .i64 ((rd_T78 l0_3 x78_4).f0), .int .i64 ((rd_T78 l0_3 x78_4).f1), .int .i64 ((rd_T78 l0_3 x78_4).f2)] 78 (0, 0))) := ⟨by (with_reducible repeat (first | refine kN_ ?_ _ | refine kD_ ?_ | refine kA_ ?_ _)); refine kP_ (cs := #[.int .i64 ((rd_T78 l0_3 x78_4).f0), .int .i64 ((rd_T78 l0_3 x78_4).f1), .int .i64 0]) ?_ 2 _ rfl; (with_reducible repeat (first | refine kN_ ?_ _ | refine kD_ ?_ | refine kA_ ?_ _)); refine kP_ (cs := #[.int .i64 ((rd_T78 l0_3 x78_4).f0), .int .i64 0, .int .i64 0]) ?_ 1 _ rfl; (with_reducible repeat (first | refine kN_ ?_ _ | refine kD_ ?_ | refine kA_ ?_ _)); refine kP_ (cs := #[.int .i64 0, .int .i64 0, .int .i64 0]) ?_ 0 _ rfl; (with_reducible repeat (first | refine kN_ ?_ _ | refine kD_ ?_ | refine kA_ ?_ _)); exact BK186.out⟩
                 have n2_ : Aside0 (Below w.heap.size w (((w77.setCell ⟨gb186, 0, none⟩ (.int .i64 ((rd_T78 l0_3 x78_4).f0))).setCell ⟨gb186, 1, none⟩ (.int .i64 ((rd_T78 l0_3 x78_4).f1))).setCell ⟨gb186, 2, none⟩ (.int .i64 ((rd_T78 l0_3 x78_4).f2)))) := ⟨by repeat (first | (with_reducible first | exact HB.out | apply bA_ | apply bN_ | apply bD_ | refine bE_ ?_ GE178.out | refine bE_ ?_ GE186.out) | exact HB.out)⟩
                 (try clear BK178)
                 (try clear BK186)
                 (try clear HB)
                 generalize (((w77.setCell ⟨gb186, 0, none⟩ (.int .i64 ((rd_T78 l0_3 x78_4).f0))).setCell ⟨gb186, 1, none⟩ (.int .i64 ((rd_T78 l0_3 x78_4).f1))).setCell ⟨gb186, 2, none⟩ (.int .i64 ((rd_T78 l0_3 x78_4).f2))) = w80 at n0_ n1_ n2_ ⊢
                 have BK178 := n0_
                 have BK186 := n1_
                 have HB := n2_
                 clear n0_ n1_ n2_
                 have n0_ := aM_ (kD_ BK178.out)
                 have n1_ := aM_ (kD_ BK186.out)
                 have n2_ := aM_ (bD_ HB.out)
                 clear BK178
                 clear BK186
                 clear HB
                 have BK178 := n0_
                 have BK186 := n1_
                 have HB := n2_
                 clear n0_ n1_ n2_
                 refine start_ (n := 32) (S := fun w' => w'.cell? ⟨gb186, 0, none⟩ = some (.int .i64 ((rd_T78 l0_3 x78_4).f0)) ∧ w'.cell? ⟨gb186, 1, none⟩ = some (.int .i64 ((rd_T78 l0_3 x78_4).f1)) ∧ w'.cell? ⟨gb186, 2, none⟩ = some (.int .i64 ((rd_T78 l0_3 x78_4).f2))) (ds := []) #[false, false, false, false, false, false, false, false, false, false, false, false, false, false, false, false, false, false, false, false, false, false, false, false, false, false, false, false, false, false, false, false] (by kernel_rfl) rfl rfl ⟨(kC_ BK186.out 0).trans rfl, (kC_ BK186.out 1).trans rfl, (kC_ BK186.out 2).trans rfl⟩ (fun hHeld => ?_); refine with_tabW impl_DiskOk.tab18 impl_DiskOk.bits18 (fun HT_ HW_ => ?_)
                 generalize w80.drew = w81 at BK178 BK186 HB hHeld ⊢
                 refine pure_ (i := 0) (N := some 83) (v := ?_) (a' := ?_) #[true, false, false, false, false, false, false, false, false, false, false, false, false, false, false, false, false, false, false, false, false, false, false, false, false, false, false, false, false, false, false, false] rfl rfl (any_of HT_.out (by kernel_rfl)) (fun _ _ _ h => h) (Or.inl ⟨by rfl, ?_⟩) ?_ ?_
                 rotate_left
                 ·intro w'
                  go_simp
                  with_reducible rfl
                 rotate_left
                 ·simp only [Act.put, sI_, sZ_, sS_, i64_w, i32_w]
                  rfl
                 refine take_ (i := 1) (N := some 84) (v := ?_) (a' := ?_) #[true, true, false, false, false, false, false, false, false, false, false, false, false, false, false, false, false, false, false, false, false, false, false, false, false, false, false, false, false, false, false, false] rfl rfl (take_ofW HT_.out HW_.out (by kernel_rfl)) (fun _ _ _ h => h) (Or.inl ⟨by rfl, ?_⟩) hHeld ?_ ?_
                 rotate_left
                 ·rintro w' ⟨s0, s1, s2⟩
                  go_simp
                  with_reducible rfl
                 rotate_left
                 ·simp only [Act.put, sI_, sZ_, sS_, i64_w, i32_w]
                  rfl
                 refine one_ (i := 2) (N := some 85) #[true, true, true, false, false, false, false, false, false, false, false, false, false, false, false, false, false, false, false, false, false, false, false, false, false, false, false, false, false, false, false, false] rfl rfl (one_of HT_.out (by kernel_rfl)) (by decide) (fun K hK => ?_)
                 refine goes_ Try.func62 (by kernel_rfl) rfl #[.int .i64 ((rd_T78 l0_3 x78_4).f0), .int .i64 0, .int .i64 100000] (by rfl) rfl rfl (by (try simp only [mA_, mC_, mN_]); first | done | rfl | (simp only [lD_, lT_]; rfl)) ?_
                 with_reducible refine (impl_in.calls ((rd_T78 l0_3 x78_4).f0) 0 100000 true _ A46.out).mono ?_
                 rintro e w' ⟨rfl, ⟨nd, rfl⟩⟩
                 refine ⟨_, rfl, ?_⟩
                 refine hK.out _ _ ⟨(kC_ BK186.out 0).trans rfl, (kC_ BK186.out 1).trans rfl, (kC_ BK186.out 2).trans rfl⟩ (fun hHeld => ?_)
                 clear hK K
                 refine norm_ (a' := ?_) ?_ ?_
                 rotate_left
                 ·show Act.put _ (some 85) _ = _
                  simp only [Act.put, sI_, sZ_, sS_, i64_w, i32_w]
                  rfl
                 refine pure_ (i := 3) (N := some 86) (v := ?_) (a' := ?_) #[true, true, true, true, false, false, false, false, false, false, false, false, false, false, false, false, false, false, false, false, false, false, false, false, false, false, false, false, false, false, false, false] rfl rfl (any_of HT_.out (by kernel_rfl)) (fun _ _ _ h => h) (Or.inl ⟨by rfl, ?_⟩) ?_ ?_
                 rotate_left
                 ·intro w'
                  go_simp
                  with_reducible rfl
                 rotate_left
                 ·simp only [Act.put, sI_, sZ_, sS_, i64_w, i32_w]
                  rfl
                 refine pure_ (i := 4) (N := some 87) (v := ?_) (a' := ?_) #[true, true, true, true, true, false, false, false, false, false, false, false, false, false, false, false, false, false, false, false, false, false, false, false, false, false, false, false, false, false, false, false] rfl rfl (any_of HT_.out (by kernel_rfl)) (fun _ _ _ h => h) (Or.inl ⟨by rfl, ?_⟩) ?_ ?_
                 rotate_left
                 ·intro w'
                  go_simp
                  with_reducible rfl
                 rotate_left
                 ·simp only [Act.put, sI_, sZ_, sS_, i64_w, i32_w]
                  rfl
                 refine pure_ (i := 5) (N := some 88) (v := ?_) (a' := ?_) #[true, true, true, true, true, true, false, false, false, false, false, false, false, false, false, false, false, false, false, false, false, false, false, false, false, false, false, false, false, false, false, false] rfl rfl (any_of HT_.out (by kernel_rfl)) (fun _ _ _ h => h) (Or.inl ⟨by rfl, ?_⟩) ?_ ?_
                 rotate_left
                 ·intro w'
                  go_simp
                  with_reducible rfl
                 rotate_left
                 ·simp only [Act.put, sI_, sZ_, sS_, i64_w, i32_w]
                  rfl
                 refine take_ (i := 6) (N := some 89) (v := ?_) (a' := ?_) #[true, true, true, true, true, true, true, false, false, false, false, false, false, false, false, false, false, false, false, false, false, false, false, false, false, false, false, false, false, false, false, false] rfl rfl (take_ofW HT_.out HW_.out (by kernel_rfl)) (fun _ _ _ h => h) (Or.inl ⟨by rfl, ?_⟩) hHeld ?_ ?_
                 rotate_left
                 ·rintro w' ⟨s0, s1, s2⟩
                  go_simp
                  with_reducible rfl
                 rotate_left
                 ·simp only [Act.put, sI_, sZ_, sS_, i64_w, i32_w]
                  rfl
                 refine one_ (i := 7) (N := some 90) #[true, true, true, true, true, true, true, true, false, false, false, false, false, false, false, false, false, false, false, false, false, false, false, false, false, false, false, false, false, false, false, false] rfl rfl (one_of HT_.out (by kernel_rfl)) (by decide) (fun K hK => ?_)
                 refine goes_ Try.func62 (by kernel_rfl) rfl #[.int .i64 ((rd_T78 l0_3 x78_4).f1), .int .i64 0, .int .i64 1048575] (by rfl) rfl rfl (by (try simp only [mA_, mC_, mN_]); first | done | rfl | (simp only [lD_, lT_]; rfl)) ?_
                 with_reducible refine (impl_in.calls ((rd_T78 l0_3 x78_4).f1) 0 1048575 false _ A48.out).mono ?_
                 rintro e w' ⟨rfl, ⟨nd, rfl⟩⟩
                 refine ⟨_, rfl, ?_⟩
                 refine hK.out _ _ ⟨(kC_ BK186.out 0).trans rfl, (kC_ BK186.out 1).trans rfl, (kC_ BK186.out 2).trans rfl⟩ (fun hHeld => ?_)
                 clear hK K
                 refine norm_ (a' := ?_) ?_ ?_
                 rotate_left
                 ·show Act.put _ (some 90) _ = _
                  simp only [Act.put, sI_, sZ_, sS_, i64_w, i32_w]
                  rfl
                 refine pure_ (i := 8) (N := some 91) (v := ?_) (a' := ?_) #[true, true, true, true, true, true, true, true, true, false, false, false, false, false, false, false, false, false, false, false, false, false, false, false, false, false, false, false, false, false, false, false] rfl rfl (any_of HT_.out (by kernel_rfl)) (fun _ _ _ h => h) (Or.inl ⟨by rfl, ?_⟩) ?_ ?_
                 rotate_left
                 ·intro w'
                  go_simp
                  with_reducible rfl
                 rotate_left
                 ·simp only [Act.put, sI_, sZ_, sS_, i64_w, i32_w]
                  rfl
                 refine pure_ (i := 9) (N := some 92) (v := ?_) (a' := ?_) #[true, true, true, true, true, true, true, true, true, true, false, false, false, false, false, false, false, false, false, false, false, false, false, false, false, false, false, false, false, false, false, false] rfl rfl (any_of HT_.out (by kernel_rfl)) (fun _ _ _ h => h) (Or.inl ⟨by rfl, ?_⟩) ?_ ?_
                 rotate_left
                 ·intro w'
                  go_simp
                  with_reducible rfl
                 rotate_left
                 ·simp only [Act.put, sI_, sZ_, sS_, i64_w, i32_w]
                  rfl
                 refine pure_ (i := 10) (N := some 93) (v := ?_) (a' := ?_) #[true, true, true, true, true, true, true, true, true, true, true, false, false, false, false, false, false, false, false, false, false, false, false, false, false, false, false, false, false, false, false, false] rfl rfl (any_of HT_.out (by kernel_rfl)) (fun _ _ _ h => h) (Or.inl ⟨by rfl, ?_⟩) ?_ ?_
                 rotate_left
                 ·intro w'
                  go_simp
                  with_reducible rfl
                 rotate_left
                 ·simp only [Act.put, sI_, sZ_, sS_, i64_w, i32_w]
                  rfl
                 refine pure_ (i := 11) (N := some 94) (v := undef) (a' := ?_) #[true, true, true, true, true, true, true, true, true, true, true, true, false, false, false, false, false, false, false, false, false, false, false, false, false, false, false, false, false, false, false, false] rfl rfl (any_of HT_.out (by kernel_rfl)) (fun _ _ _ h => h) (Or.inr ⟨by rfl, rfl⟩) ?_ ?_
                 rotate_left
                 ·simp only [Act.put, sI_, sZ_, sS_, i64_w, i32_w]
                  rfl
                 refine pure_ (i := 12) (N := some 95) (v := undef) (a' := ?_) #[true, true, true, true, true, true, true, true, true, true, true, true, true, false, false, false, false, false, false, false, false, false, false, false, false, false, false, false, false, false, false, false] rfl rfl (any_of HT_.out (by kernel_rfl)) (fun _ _ _ h => h) (Or.inr ⟨by rfl, rfl⟩) ?_ ?_
                 rotate_left
                 ·simp only [Act.put, sI_, sZ_, sS_, i64_w, i32_w]
                  rfl
                 refine pure_ (i := 13) (N := some 96) (v := undef) (a' := ?_) #[true, true, true, true, true, true, true, true, true, true, true, true, true, true, false, false, false, false, false, false, false, false, false, false, false, false, false, false, false, false, false, false] rfl rfl (any_of HT_.out (by kernel_rfl)) (fun _ _ _ h => h) (Or.inr ⟨by rfl, rfl⟩) ?_ ?_
                 rotate_left
                 ·simp only [Act.put, sI_, sZ_, sS_, i64_w, i32_w]
                  rfl
                 refine pure_ (i := 14) (N := some 97) (v := undef) (a' := ?_) #[true, true, true, true, true, true, true, true, true, true, true, true, true, true, true, false, false, false, false, false, false, false, false, false, false, false, false, false, false, false, false, false] rfl rfl (any_of HT_.out (by kernel_rfl)) (fun _ _ _ h => h) (Or.inr ⟨by rfl, rfl⟩) ?_ ?_
                 rotate_left
                 ·simp only [Act.put, sI_, sZ_, sS_, i64_w, i32_w]
                  rfl
                 refine pure_ (i := 15) (N := some 98) (v := ?_) (a' := ?_) #[true, true, true, true, true, true, true, true, true, true, true, true, true, true, true, true, false, false, false, false, false, false, false, false, false, false, false, false, false, false, false, false] rfl rfl (any_of HT_.out (by kernel_rfl)) (fun _ _ _ h => h) (Or.inl ⟨by rfl, ?_⟩) ?_ ?_
                 rotate_left
                 ·intro w'
                  go_simp
                  with_reducible rfl
                 rotate_left
                 ·simp only [Act.put, sI_, sZ_, sS_, i64_w, i32_w]
                  rfl
                 refine pure_ (i := 16) (N := some 99) (v := ?_) (a' := ?_) #[true, true, true, true, true, true, true, true, true, true, true, true, true, true, true, true, true, false, false, false, false, false, false, false, false, false, false, false, false, false, false, false] rfl rfl (any_of HT_.out (by kernel_rfl)) (fun _ _ _ h => h) (Or.inl ⟨by rfl, ?_⟩) ?_ ?_
                 rotate_left
                 ·intro w'
                  go_simp
                  with_reducible rfl
                 rotate_left
                 ·simp only [Act.put, sI_, sZ_, sS_, i64_w, i32_w]
                  rfl
                 refine pure_ (i := 17) (N := some 100) (v := undef) (a' := ?_) #[true, true, true, true, true, true, true, true, true, true, true, true, true, true, true, true, true, true, false, false, false, false, false, false, false, false, false, false, false, false, false, false] rfl rfl (any_of HT_.out (by kernel_rfl)) (fun _ _ _ h => h) (Or.inr ⟨by rfl, rfl⟩) ?_ ?_
                 rotate_left
                 ·simp only [Act.put, sI_, sZ_, sS_, i64_w, i32_w]
                  rfl
                 refine pure_ (i := 18) (N := some 101) (v := undef) (a' := ?_) #[true, true, true, true, true, true, true, true, true, true, true, true, true, true, true, true, true, true, true, false, false, false, false, false, false, false, false, false, false, false, false, false] rfl rfl (any_of HT_.out (by kernel_rfl)) (fun _ _ _ h => h) (Or.inr ⟨by rfl, rfl⟩) ?_ ?_
                 rotate_left
                 ·simp only [Act.put, sI_, sZ_, sS_, i64_w, i32_w]
                  rfl
                 refine pure_ (i := 19) (N := some 102) (v := undef) (a' := ?_) #[true, true, true, true, true, true, true, true, true, true, true, true, true, true, true, true, true, true, true, true, false, false, false, false, false, false, false, false, false, false, false, false] rfl rfl (any_of HT_.out (by kernel_rfl)) (fun _ _ _ h => h) (Or.inr ⟨by rfl, rfl⟩) ?_ ?_
                 rotate_left
                 ·simp only [Act.put, sI_, sZ_, sS_, i64_w, i32_w]
                  rfl
                 refine pure_ (i := 20) (N := some 103) (v := undef) (a' := ?_) #[true, true, true, true, true, true, true, true, true, true, true, true, true, true, true, true, true, true, true, true, true, false, false, false, false, false, false, false, false, false, false, false] rfl rfl (any_of HT_.out (by kernel_rfl)) (fun _ _ _ h => h) (Or.inr ⟨by rfl, rfl⟩) ?_ ?_
                 rotate_left
                 ·simp only [Act.put, sI_, sZ_, sS_, i64_w, i32_w]
                  rfl
                 refine pure_ (i := 21) (N := some 104) (v := undef) (a' := ?_) #[true, true, true, true, true, true, true, true, true, true, true, true, true, true, true, true, true, true, true, true, true, true, false, false, false, false, false, false, false, false, false, false] rfl rfl (any_of HT_.out (by kernel_rfl)) (fun _ _ _ h => h) (Or.inr ⟨by rfl, rfl⟩) ?_ ?_
                 rotate_left
                 ·simp only [Act.put, sI_, sZ_, sS_, i64_w, i32_w]
                  rfl
                 refine pure_ (i := 22) (N := some 105) (v := undef) (a' := ?_) #[true, true, true, true, true, true, true, true, true, true, true, true, true, true, true, true, true, true, true, true, true, true, true, false, false, false, false, false, false, false, false, false] rfl rfl (any_of HT_.out (by kernel_rfl)) (fun _ _ _ h => h) (Or.inr ⟨by rfl, rfl⟩) ?_ ?_
                 rotate_left
                 ·simp only [Act.put, sI_, sZ_, sS_, i64_w, i32_w]
                  rfl
                 refine pure_ (i := 23) (N := some 106) (v := undef) (a' := ?_) #[true, true, true, true, true, true, true, true, true, true, true, true, true, true, true, true, true, true, true, true, true, true, true, true, false, false, false, false, false, false, false, false] rfl rfl (any_of HT_.out (by kernel_rfl)) (fun _ _ _ h => h) (Or.inr ⟨by rfl, rfl⟩) ?_ ?_
                 rotate_left
                 ·simp only [Act.put, sI_, sZ_, sS_, i64_w, i32_w]
                  rfl
                 refine pure_ (i := 24) (N := some 107) (v := undef) (a' := ?_) #[true, true, true, true, true, true, true, true, true, true, true, true, true, true, true, true, true, true, true, true, true, true, true, true, true, false, false, false, false, false, false, false] rfl rfl (any_of HT_.out (by kernel_rfl)) (fun _ _ _ h => h) (Or.inr ⟨by rfl, rfl⟩) ?_ ?_
                 rotate_left
                 ·simp only [Act.put, sI_, sZ_, sS_, i64_w, i32_w]
                  rfl
                 refine pure_ (i := 25) (N := some 108) (v := undef) (a' := ?_) #[true, true, true, true, true, true, true, true, true, true, true, true, true, true, true, true, true, true, true, true, true, true, true, true, true, true, false, false, false, false, false, false] rfl rfl (any_of HT_.out (by kernel_rfl)) (fun _ _ _ h => h) (Or.inr ⟨by rfl, rfl⟩) ?_ ?_
                 rotate_left
                 ·simp only [Act.put, sI_, sZ_, sS_, i64_w, i32_w]
                  rfl
                 refine pure_ (i := 26) (N := some 109) (v := undef) (a' := ?_) #[true, true, true, true, true, true, true, true, true, true, true, true, true, true, true, true, true, true, true, true, true, true, true, true, true, true, true, false, false, false, false, false] rfl rfl (any_of HT_.out (by kernel_rfl)) (fun _ _ _ h => h) (Or.inr ⟨by rfl, rfl⟩) ?_ ?_
                 rotate_left
                 ·simp only [Act.put, sI_, sZ_, sS_, i64_w, i32_w]
                  rfl
                 refine pure_ (i := 27) (N := some 110) (v := undef) (a' := ?_) #[true, true, true, true, true, true, true, true, true, true, true, true, true, true, true, true, true, true, true, true, true, true, true, true, true, true, true, true, false, false, false, false] rfl rfl (any_of HT_.out (by kernel_rfl)) (fun _ _ _ h => h) (Or.inr ⟨by rfl, rfl⟩) ?_ ?_
                 rotate_left
                 ·simp only [Act.put, sI_, sZ_, sS_, i64_w, i32_w]
                  rfl
                 refine pure_ (i := 28) (N := some 111) (v := undef) (a' := ?_) #[true, true, true, true, true, true, true, true, true, true, true, true, true, true, true, true, true, true, true, true, true, true, true, true, true, true, true, true, true, false, false, false] rfl rfl (any_of HT_.out (by kernel_rfl)) (fun _ _ _ h => h) (Or.inr ⟨by rfl, rfl⟩) ?_ ?_
                 rotate_left
                 ·simp only [Act.put, sI_, sZ_, sS_, i64_w, i32_w]
                  rfl
                 refine pure_ (i := 29) (N := some 112) (v := undef) (a' := ?_) #[true, true, true, true, true, true, true, true, true, true, true, true, true, true, true, true, true, true, true, true, true, true, true, true, true, true, true, true, true, true, false, false] rfl rfl (any_of HT_.out (by kernel_rfl)) (fun _ _ _ h => h) (Or.inr ⟨by rfl, rfl⟩) ?_ ?_
                 rotate_left
                 ·simp only [Act.put, sI_, sZ_, sS_, i64_w, i32_w]
                  rfl
                 refine pure_ (i := 30) (N := some 113) (v := undef) (a' := ?_) #[true, true, true, true, true, true, true, true, true, true, true, true, true, true, true, true, true, true, true, true, true, true, true, true, true, true, true, true, true, true, true, false] rfl rfl (any_of HT_.out (by kernel_rfl)) (fun _ _ _ h => h) (Or.inr ⟨by rfl, rfl⟩) ?_ ?_
                 rotate_left
                 ·simp only [Act.put, sI_, sZ_, sS_, i64_w, i32_w]
                  rfl
                 refine pure_ (i := 31) (N := some 114) (v := ?_) (a' := ?_) #[true, true, true, true, true, true, true, true, true, true, true, true, true, true, true, true, true, true, true, true, true, true, true, true, true, true, true, true, true, true, true, true] rfl rfl (any_of HT_.out (by kernel_rfl)) (fun _ _ _ h => h) (Or.inl ⟨by rfl, ?_⟩) ?_ ?_
                 rotate_left
                 ·intro w'
                  go_simp
                  with_reducible rfl
                 rotate_left
                 ·simp only [Act.put, sI_, sZ_, sS_, i64_w, i32_w]
                  rfl
                 refine done_ (done_of HT_.out (by kernel_rfl)) ?_
                 try go_wp2
                 go_ret
                 exact ⟨by first | rfl | (simp [errW_none, errW_some] <;> rfl) | (simp [*, errW_none, errW_some] <;> rfl), by repeat (first | (with_reducible first | exact HB.out | apply bA_ | apply bN_ | apply bD_ | refine bE_ ?_ GE178.out | refine bE_ ?_ GE186.out) | exact HB.out)⟩
               ·replace c47 := Bool.eq_false_iff.mpr c47
                subst c47
                have H1 : (some false) = some r := by rw [if_neg (show ¬ (false = true) by decide)] at H; exact H
                clear H
                have H := H1
                clear H1
                obtain rfl := Option.some.inj H
                have p185 : 0 ≤ (x78_4 : Int) := oT_ (by first | (with_reducible assumption) | assumption)
                have q185 : x78_4 < (l0_3.length : Int) := oT_ (by first | (with_reducible assumption) | assumption)
                obtain ⟨ad185, e185, hx185_0, hx185_1, hx185_2⟩ := at_T78 HR0_3.out x78_4 p185 q185
                cases e185
                replace hx185_0 := (HB.out.cell (wL_ w _ hx185_0)).trans hx185_0
                replace hx185_1 := (HB.out.cell (wL_ w _ hx185_1)).trans hx185_1
                replace hx185_2 := (HB.out.cell (wL_ w _ hx185_2)).trans hx185_2
                replace p185 := eq_true p185
                replace q185 := eq_true q185
                try go_wp2_with (first | ((with_reducible refine gate_dst (N := 8) rfl ?_); (try (refine gate_guard (by rfl) ?_; dsimp only)); refine box_event ?hg (N := 8) ?hd (cs := #[.int .i64 0, .int .i64 0, .int .i64 0]) (t := 78) ?hr ?_; (case hd => rfl); (case hg => rfl); (case hr => first | (go_simp; done) | (go_simp; rfl)); intro gb186 hg w82 hbox hb; have n0_ := aM_ (blk_below (g := gb178) (o := .cells #[.slice A0_0 l0_0.length c0_0, .slice A0_1 l0_1.length c0_1, .int .i64 a0_2, .slice (some ad185) l0_3.length c0_3, .bool a0_4] 32 (0, 0)) (by (with_reducible repeat (first | refine kN_ ?_ _ | refine kD_ ?_ | refine kA_ ?_ _)); exact BK178.out) hb); have n1_ := aM_ (bT_ (by repeat (first | (with_reducible first | exact HB.out | apply bA_ | apply bN_ | apply bD_ | refine bE_ ?_ GE178.out) | exact HB.out)) hb); have n2_ := aM_ (hbox); have n3_ := aM_ ((by rw [hg]; exact (bS_ (by repeat (first | (with_reducible first | exact HB.out | apply bA_ | apply bN_ | apply bD_ | refine bE_ ?_ GE178.out) | exact HB.out))) : w.heap.size ≤ gb186)); have n4_ := aM_ ((by rw [hg]; exact (bS_ (by repeat (first | (with_reducible first | exact HB.out | apply bA_ | apply bN_ | apply bD_ | refine bE_ ?_ GE178.out) | exact HB.out))) : w.heap.size ≤ gb186)); have n5_ := aM_ ((by rw [hg]; exact Nat.ne_of_lt (blk_lt (g := gb178) (o := .cells #[.slice A0_0 l0_0.length c0_0, .slice A0_1 l0_1.length c0_1, .int .i64 a0_2, .slice (some ad185) l0_3.length c0_3, .bool a0_4] 32 (0, 0)) (by (with_reducible repeat (first | refine kN_ ?_ _ | refine kD_ ?_ | refine kA_ ?_ _)); exact BK178.out)) : gb178 ≠ gb186)); have n6_ := aM_ ((by rw [hg]; exact Nat.ne_of_gt (blk_lt (g := gb178) (o := .cells #[.slice A0_0 l0_0.length c0_0, .slice A0_1 l0_1.length c0_1, .int .i64 a0_2, .slice (some ad185) l0_3.length c0_3, .bool a0_4] 32 (0, 0)) (by (with_reducible repeat (first | refine kN_ ?_ _ | refine kD_ ?_ | refine kA_ ?_ _)); exact BK178.out)) : gb186 ≠ gb178)); clear BK178; clear HB; have BK178 := n0_; have HB := n1_; have BK186 := n2_; have GW186 := n3_; have GE186 := n4_; have NB178_186 := n5_; have NB186_178 := n6_; clear n0_ n1_ n2_ n3_ n4_ n5_ n6_; clear hb hbox hg; have hnb83 := NB186_178.out; have hnc83 := NB178_186.out; have hcz84_0 : w82.cell? ⟨gb186, 0, none⟩ = some (.int .i64 0) := (kC_ BK186.out 0).trans rfl; have hcz84_1 : w82.cell? ⟨gb186, 1, none⟩ = some (.int .i64 0) := (kC_ BK186.out 1).trans rfl; have hcz84_2 : w82.cell? ⟨gb186, 2, none⟩ = some (.int .i64 0) := (kC_ BK186.out 2).trans rfl; have hfz84_0 := kF_ BK186.out 0; have hfz84_1 := kF_ BK186.out 1; have hfz84_2 := kF_ BK186.out 2))
                have n0_ : Aside0 ((((w82.setCell ⟨gb186, 0, none⟩ (.int .i64 ((rd_T78 l0_3 x78_4).f0))).setCell ⟨gb186, 1, none⟩ (.int .i64 ((rd_T78 l0_3 x78_4).f1))).setCell ⟨gb186, 2, none⟩ (.int .i64 ((rd_T78 l0_3 x78_4).f2))).heap[gb178]? = some (.cells #[.slice A0_0 l0_0.length c0_0, .slice A0_1 l0_1.length c0_1, .int .i64 a0_2, .slice (some ad185) l0_3.length c0_3, .bool a0_4] 32 (0, 0))) := ⟨by (with_reducible repeat (first | refine kN_ ?_ _ | refine kD_ ?_ | refine kA_ ?_ _)); refine blk_far ?_ NB178_186.out _; (with_reducible repeat (first | refine kN_ ?_ _ | refine kD_ ?_ | refine kA_ ?_ _)); refine blk_far ?_ NB178_186.out _; (with_reducible repeat (first | refine kN_ ?_ _ | refine kD_ ?_ | refine kA_ ?_ _)); refine blk_far ?_ NB178_186.out _; (with_reducible repeat (first | refine kN_ ?_ _ | refine kD_ ?_ | refine kA_ ?_ _)); exact BK178.out⟩
                have n1_ : Aside0 ((((w82.setCell ⟨gb186, 0, none⟩ (.int .i64 ((rd_T78 l0_3 x78_4).f0))).setCell ⟨gb186, 1, none⟩ (.int .i64 ((rd_T78 l0_3 x78_4).f1))).setCell ⟨gb186, 2, none⟩ (.int .i64 ((rd_T78 l0_3 x78_4).f2))).heap[gb186]? = some (.cells #[.int .i64 ((rd_T78 l0_3 x78_4).f0), .int .i64 ((rd_T78 l0_3 x78_4).f1), .int .i64 ((rd_T78 l0_3 x78_4).f2)] 78 (0, 0))) := ⟨by (with_reducible repeat (first | refine kN_ ?_ _ | refine kD_ ?_ | refine kA_ ?_ _)); refine kP_ (cs := #[.int .i64 ((rd_T78 l0_3 x78_4).f0), .int .i64 ((rd_T78 l0_3 x78_4).f1), .int .i64 0]) ?_ 2 _ rfl; (with_reducible repeat (first | refine kN_ ?_ _ | refine kD_ ?_ | refine kA_ ?_ _)); refine kP_ (cs := #[.int .i64 ((rd_T78 l0_3 x78_4).f0), .int .i64 0, .int .i64 0]) ?_ 1 _ rfl; (with_reducible repeat (first | refine kN_ ?_ _ | refine kD_ ?_ | refine kA_ ?_ _)); refine kP_ (cs := #[.int .i64 0, .int .i64 0, .int .i64 0]) ?_ 0 _ rfl; (with_reducible repeat (first | refine kN_ ?_ _ | refine kD_ ?_ | refine kA_ ?_ _)); exact BK186.out⟩
                have n2_ : Aside0 (Below w.heap.size w (((w82.setCell ⟨gb186, 0, none⟩ (.int .i64 ((rd_T78 l0_3 x78_4).f0))).setCell ⟨gb186, 1, none⟩ (.int .i64 ((rd_T78 l0_3 x78_4).f1))).setCell ⟨gb186, 2, none⟩ (.int .i64 ((rd_T78 l0_3 x78_4).f2)))) := ⟨by repeat (first | (with_reducible first | exact HB.out | apply bA_ | apply bN_ | apply bD_ | refine bE_ ?_ GE178.out | refine bE_ ?_ GE186.out) | exact HB.out)⟩
                (try clear BK178)
                (try clear BK186)
                (try clear HB)
                generalize (((w82.setCell ⟨gb186, 0, none⟩ (.int .i64 ((rd_T78 l0_3 x78_4).f0))).setCell ⟨gb186, 1, none⟩ (.int .i64 ((rd_T78 l0_3 x78_4).f1))).setCell ⟨gb186, 2, none⟩ (.int .i64 ((rd_T78 l0_3 x78_4).f2))) = w85 at n0_ n1_ n2_ ⊢
                have BK178 := n0_
                have BK186 := n1_
                have HB := n2_
                clear n0_ n1_ n2_
                have n0_ := aM_ (kD_ BK178.out)
                have n1_ := aM_ (kD_ BK186.out)
                have n2_ := aM_ (bD_ HB.out)
                clear BK178
                clear BK186
                clear HB
                have BK178 := n0_
                have BK186 := n1_
                have HB := n2_
                clear n0_ n1_ n2_
                refine start_ (n := 32) (S := fun w' => w'.cell? ⟨gb186, 0, none⟩ = some (.int .i64 ((rd_T78 l0_3 x78_4).f0)) ∧ w'.cell? ⟨gb186, 1, none⟩ = some (.int .i64 ((rd_T78 l0_3 x78_4).f1)) ∧ w'.cell? ⟨gb186, 2, none⟩ = some (.int .i64 ((rd_T78 l0_3 x78_4).f2))) (ds := []) #[false, false, false, false, false, false, false, false, false, false, false, false, false, false, false, false, false, false, false, false, false, false, false, false, false, false, false, false, false, false, false, false] (by kernel_rfl) rfl rfl ⟨(kC_ BK186.out 0).trans rfl, (kC_ BK186.out 1).trans rfl, (kC_ BK186.out 2).trans rfl⟩ (fun hHeld => ?_); refine with_tabW impl_DiskOk.tab18 impl_DiskOk.bits18 (fun HT_ HW_ => ?_)
                generalize w85.drew = w86 at BK178 BK186 HB hHeld ⊢
                refine pure_ (i := 0) (N := some 83) (v := ?_) (a' := ?_) #[true, false, false, false, false, false, false, false, false, false, false, false, false, false, false, false, false, false, false, false, false, false, false, false, false, false, false, false, false, false, false, false] rfl rfl (any_of HT_.out (by kernel_rfl)) (fun _ _ _ h => h) (Or.inl ⟨by rfl, ?_⟩) ?_ ?_
                rotate_left
                ·intro w'
                 go_simp
                 with_reducible rfl
                rotate_left
                ·simp only [Act.put, sI_, sZ_, sS_, i64_w, i32_w]
                 rfl
                refine take_ (i := 1) (N := some 84) (v := ?_) (a' := ?_) #[true, true, false, false, false, false, false, false, false, false, false, false, false, false, false, false, false, false, false, false, false, false, false, false, false, false, false, false, false, false, false, false] rfl rfl (take_ofW HT_.out HW_.out (by kernel_rfl)) (fun _ _ _ h => h) (Or.inl ⟨by rfl, ?_⟩) hHeld ?_ ?_
                rotate_left
                ·rintro w' ⟨s0, s1, s2⟩
                 go_simp
                 with_reducible rfl
                rotate_left
                ·simp only [Act.put, sI_, sZ_, sS_, i64_w, i32_w]
                 rfl
                refine one_ (i := 2) (N := some 85) #[true, true, true, false, false, false, false, false, false, false, false, false, false, false, false, false, false, false, false, false, false, false, false, false, false, false, false, false, false, false, false, false] rfl rfl (one_of HT_.out (by kernel_rfl)) (by decide) (fun K hK => ?_)
                refine goes_ Try.func62 (by kernel_rfl) rfl #[.int .i64 ((rd_T78 l0_3 x78_4).f0), .int .i64 0, .int .i64 100000] (by rfl) rfl rfl (by (try simp only [mA_, mC_, mN_]); first | done | rfl | (simp only [lD_, lT_]; rfl)) ?_
                with_reducible refine (impl_in.calls ((rd_T78 l0_3 x78_4).f0) 0 100000 false _ A46.out).mono ?_
                rintro e w' ⟨rfl, ⟨nd, rfl⟩⟩
                refine ⟨_, rfl, ?_⟩
                refine hK.out _ _ ⟨(kC_ BK186.out 0).trans rfl, (kC_ BK186.out 1).trans rfl, (kC_ BK186.out 2).trans rfl⟩ (fun hHeld => ?_)
                clear hK K
                refine norm_ (a' := ?_) ?_ ?_
                rotate_left
                ·show Act.put _ (some 85) _ = _
                 simp only [Act.put, sI_, sZ_, sS_, i64_w, i32_w]
                 rfl
                refine pure_ (i := 3) (N := some 86) (v := ?_) (a' := ?_) #[true, true, true, true, false, false, false, false, false, false, false, false, false, false, false, false, false, false, false, false, false, false, false, false, false, false, false, false, false, false, false, false] rfl rfl (any_of HT_.out (by kernel_rfl)) (fun _ _ _ h => h) (Or.inl ⟨by rfl, ?_⟩) ?_ ?_
                rotate_left
                ·intro w'
                 go_simp
                 with_reducible rfl
                rotate_left
                ·simp only [Act.put, sI_, sZ_, sS_, i64_w, i32_w]
                 rfl
                refine pure_ (i := 4) (N := some 87) (v := ?_) (a' := ?_) #[true, true, true, true, true, false, false, false, false, false, false, false, false, false, false, false, false, false, false, false, false, false, false, false, false, false, false, false, false, false, false, false] rfl rfl (any_of HT_.out (by kernel_rfl)) (fun _ _ _ h => h) (Or.inl ⟨by rfl, ?_⟩) ?_ ?_
                rotate_left
                ·intro w'
                 go_simp
                 with_reducible rfl
                rotate_left
                ·simp only [Act.put, sI_, sZ_, sS_, i64_w, i32_w]
                 rfl
                refine pure_ (i := 5) (N := some 88) (v := undef) (a' := ?_) #[true, true, true, true, true, true, false, false, false, false, false, false, false, false, false, false, false, false, false, false, false, false, false, false, false, false, false, false, false, false, false, false] rfl rfl (any_of HT_.out (by kernel_rfl)) (fun _ _ _ h => h) (Or.inr ⟨by rfl, rfl⟩) ?_ ?_
                rotate_left
                ·simp only [Act.put, sI_, sZ_, sS_, i64_w, i32_w]
                 rfl
                refine pure_ (i := 6) (N := some 89) (v := undef) (a' := ?_) #[true, true, true, true, true, true, true, false, false, false, false, false, false, false, false, false, false, false, false, false, false, false, false, false, false, false, false, false, false, false, false, false] rfl rfl (any_of HT_.out (by kernel_rfl)) (fun _ _ _ h => h) (Or.inr ⟨by rfl, rfl⟩) ?_ ?_
                rotate_left
                ·simp only [Act.put, sI_, sZ_, sS_, i64_w, i32_w]
                 rfl
                refine pure_ (i := 7) (N := some 90) (v := undef) (a' := ?_) #[true, true, true, true, true, true, true, true, false, false, false, false, false, false, false, false, false, false, false, false, false, false, false, false, false, false, false, false, false, false, false, false] rfl rfl (any_of HT_.out (by kernel_rfl)) (fun _ _ _ h => h) (Or.inr ⟨by rfl, rfl⟩) ?_ ?_
                rotate_left
                ·simp only [Act.put, sI_, sZ_, sS_, i64_w, i32_w]
                 rfl
                refine pure_ (i := 8) (N := some 91) (v := undef) (a' := ?_) #[true, true, true, true, true, true, true, true, true, false, false, false, false, false, false, false, false, false, false, false, false, false, false, false, false, false, false, false, false, false, false, false] rfl rfl (any_of HT_.out (by kernel_rfl)) (fun _ _ _ h => h) (Or.inr ⟨by rfl, rfl⟩) ?_ ?_
                rotate_left
                ·simp only [Act.put, sI_, sZ_, sS_, i64_w, i32_w]
                 rfl
                refine pure_ (i := 9) (N := some 92) (v := ?_) (a' := ?_) #[true, true, true, true, true, true, true, true, true, true, false, false, false, false, false, false, false, false, false, false, false, false, false, false, false, false, false, false, false, false, false, false] rfl rfl (any_of HT_.out (by kernel_rfl)) (fun _ _ _ h => h) (Or.inl ⟨by rfl, ?_⟩) ?_ ?_
                rotate_left
                ·intro w'
                 go_simp
                 with_reducible rfl
                rotate_left
                ·simp only [Act.put, sI_, sZ_, sS_, i64_w, i32_w]
                 rfl
                refine pure_ (i := 10) (N := some 93) (v := ?_) (a' := ?_) #[true, true, true, true, true, true, true, true, true, true, true, false, false, false, false, false, false, false, false, false, false, false, false, false, false, false, false, false, false, false, false, false] rfl rfl (any_of HT_.out (by kernel_rfl)) (fun _ _ _ h => h) (Or.inl ⟨by rfl, ?_⟩) ?_ ?_
                rotate_left
                ·intro w'
                 go_simp
                 with_reducible rfl
                rotate_left
                ·simp only [Act.put, sI_, sZ_, sS_, i64_w, i32_w]
                 rfl
                refine pure_ (i := 11) (N := some 94) (v := undef) (a' := ?_) #[true, true, true, true, true, true, true, true, true, true, true, true, false, false, false, false, false, false, false, false, false, false, false, false, false, false, false, false, false, false, false, false] rfl rfl (any_of HT_.out (by kernel_rfl)) (fun _ _ _ h => h) (Or.inr ⟨by rfl, rfl⟩) ?_ ?_
                rotate_left
                ·simp only [Act.put, sI_, sZ_, sS_, i64_w, i32_w]
                 rfl
                refine pure_ (i := 12) (N := some 95) (v := undef) (a' := ?_) #[true, true, true, true, true, true, true, true, true, true, true, true, true, false, false, false, false, false, false, false, false, false, false, false, false, false, false, false, false, false, false, false] rfl rfl (any_of HT_.out (by kernel_rfl)) (fun _ _ _ h => h) (Or.inr ⟨by rfl, rfl⟩) ?_ ?_
                rotate_left
                ·simp only [Act.put, sI_, sZ_, sS_, i64_w, i32_w]
                 rfl
                refine pure_ (i := 13) (N := some 96) (v := undef) (a' := ?_) #[true, true, true, true, true, true, true, true, true, true, true, true, true, true, false, false, false, false, false, false, false, false, false, false, false, false, false, false, false, false, false, false] rfl rfl (any_of HT_.out (by kernel_rfl)) (fun _ _ _ h => h) (Or.inr ⟨by rfl, rfl⟩) ?_ ?_
                rotate_left
                ·simp only [Act.put, sI_, sZ_, sS_, i64_w, i32_w]
                 rfl
                refine pure_ (i := 14) (N := some 97) (v := undef) (a' := ?_) #[true, true, true, true, true, true, true, true, true, true, true, true, true, true, true, false, false, false, false, false, false, false, false, false, false, false, false, false, false, false, false, false] rfl rfl (any_of HT_.out (by kernel_rfl)) (fun _ _ _ h => h) (Or.inr ⟨by rfl, rfl⟩) ?_ ?_
                rotate_left
                ·simp only [Act.put, sI_, sZ_, sS_, i64_w, i32_w]
                 rfl
                refine pure_ (i := 15) (N := some 98) (v := ?_) (a' := ?_) #[true, true, true, true, true, true, true, true, true, true, true, true, true, true, true, true, false, false, false, false, false, false, false, false, false, false, false, false, false, false, false, false] rfl rfl (any_of HT_.out (by kernel_rfl)) (fun _ _ _ h => h) (Or.inl ⟨by rfl, ?_⟩) ?_ ?_
                rotate_left
                ·intro w'
                 go_simp
                 with_reducible rfl
                rotate_left
                ·simp only [Act.put, sI_, sZ_, sS_, i64_w, i32_w]
                 rfl
                refine pure_ (i := 16) (N := some 99) (v := ?_) (a' := ?_) #[true, true, true, true, true, true, true, true, true, true, true, true, true, true, true, true, true, false, false, false, false, false, false, false, false, false, false, false, false, false, false, false] rfl rfl (any_of HT_.out (by kernel_rfl)) (fun _ _ _ h => h) (Or.inl ⟨by rfl, ?_⟩) ?_ ?_
                rotate_left
                ·intro w'
                 go_simp
                 with_reducible rfl
                rotate_left
                ·simp only [Act.put, sI_, sZ_, sS_, i64_w, i32_w]
                 rfl
                refine pure_ (i := 17) (N := some 100) (v := undef) (a' := ?_) #[true, true, true, true, true, true, true, true, true, true, true, true, true, true, true, true, true, true, false, false, false, false, false, false, false, false, false, false, false, false, false, false] rfl rfl (any_of HT_.out (by kernel_rfl)) (fun _ _ _ h => h) (Or.inr ⟨by rfl, rfl⟩) ?_ ?_
                rotate_left
                ·simp only [Act.put, sI_, sZ_, sS_, i64_w, i32_w]
                 rfl
                refine pure_ (i := 18) (N := some 101) (v := undef) (a' := ?_) #[true, true, true, true, true, true, true, true, true, true, true, true, true, true, true, true, true, true, true, false, false, false, false, false, false, false, false, false, false, false, false, false] rfl rfl (any_of HT_.out (by kernel_rfl)) (fun _ _ _ h => h) (Or.inr ⟨by rfl, rfl⟩) ?_ ?_
                rotate_left
                ·simp only [Act.put, sI_, sZ_, sS_, i64_w, i32_w]
                 rfl
                refine pure_ (i := 19) (N := some 102) (v := undef) (a' := ?_) #[true, true, true, true, true, true, true, true, true, true, true, true, true, true, true, true, true, true, true, true, false, false, false, false, false, false, false, false, false, false, false, false] rfl rfl (any_of HT_.out (by kernel_rfl)) (fun _ _ _ h => h) (Or.inr ⟨by rfl, rfl⟩) ?_ ?_
                rotate_left
                ·simp only [Act.put, sI_, sZ_, sS_, i64_w, i32_w]
                 rfl
                refine pure_ (i := 20) (N := some 103) (v := undef) (a' := ?_) #[true, true, true, true, true, true, true, true, true, true, true, true, true, true, true, true, true, true, true, true, true, false, false, false, false, false, false, false, false, false, false, false] rfl rfl (any_of HT_.out (by kernel_rfl)) (fun _ _ _ h => h) (Or.inr ⟨by rfl, rfl⟩) ?_ ?_
                rotate_left
                ·simp only [Act.put, sI_, sZ_, sS_, i64_w, i32_w]
                 rfl
                refine pure_ (i := 21) (N := some 104) (v := undef) (a' := ?_) #[true, true, true, true, true, true, true, true, true, true, true, true, true, true, true, true, true, true, true, true, true, true, false, false, false, false, false, false, false, false, false, false] rfl rfl (any_of HT_.out (by kernel_rfl)) (fun _ _ _ h => h) (Or.inr ⟨by rfl, rfl⟩) ?_ ?_
                rotate_left
                ·simp only [Act.put, sI_, sZ_, sS_, i64_w, i32_w]
                 rfl
                refine pure_ (i := 22) (N := some 105) (v := undef) (a' := ?_) #[true, true, true, true, true, true, true, true, true, true, true, true, true, true, true, true, true, true, true, true, true, true, true, false, false, false, false, false, false, false, false, false] rfl rfl (any_of HT_.out (by kernel_rfl)) (fun _ _ _ h => h) (Or.inr ⟨by rfl, rfl⟩) ?_ ?_
                rotate_left
                ·simp only [Act.put, sI_, sZ_, sS_, i64_w, i32_w]
                 rfl
                refine pure_ (i := 23) (N := some 106) (v := undef) (a' := ?_) #[true, true, true, true, true, true, true, true, true, true, true, true, true, true, true, true, true, true, true, true, true, true, true, true, false, false, false, false, false, false, false, false] rfl rfl (any_of HT_.out (by kernel_rfl)) (fun _ _ _ h => h) (Or.inr ⟨by rfl, rfl⟩) ?_ ?_
                rotate_left
                ·simp only [Act.put, sI_, sZ_, sS_, i64_w, i32_w]
                 rfl
                refine pure_ (i := 24) (N := some 107) (v := undef) (a' := ?_) #[true, true, true, true, true, true, true, true, true, true, true, true, true, true, true, true, true, true, true, true, true, true, true, true, true, false, false, false, false, false, false, false] rfl rfl (any_of HT_.out (by kernel_rfl)) (fun _ _ _ h => h) (Or.inr ⟨by rfl, rfl⟩) ?_ ?_
                rotate_left
                ·simp only [Act.put, sI_, sZ_, sS_, i64_w, i32_w]
                 rfl
                refine pure_ (i := 25) (N := some 108) (v := undef) (a' := ?_) #[true, true, true, true, true, true, true, true, true, true, true, true, true, true, true, true, true, true, true, true, true, true, true, true, true, true, false, false, false, false, false, false] rfl rfl (any_of HT_.out (by kernel_rfl)) (fun _ _ _ h => h) (Or.inr ⟨by rfl, rfl⟩) ?_ ?_
                rotate_left
                ·simp only [Act.put, sI_, sZ_, sS_, i64_w, i32_w]
                 rfl
                refine pure_ (i := 26) (N := some 109) (v := undef) (a' := ?_) #[true, true, true, true, true, true, true, true, true, true, true, true, true, true, true, true, true, true, true, true, true, true, true, true, true, true, true, false, false, false, false, false] rfl rfl (any_of HT_.out (by kernel_rfl)) (fun _ _ _ h => h) (Or.inr ⟨by rfl, rfl⟩) ?_ ?_
                rotate_left
                ·simp only [Act.put, sI_, sZ_, sS_, i64_w, i32_w]
                 rfl
                refine pure_ (i := 27) (N := some 110) (v := undef) (a' := ?_) #[true, true, true, true, true, true, true, true, true, true, true, true, true, true, true, true, true, true, true, true, true, true, true, true, true, true, true, true, false, false, false, false] rfl rfl (any_of HT_.out (by kernel_rfl)) (fun _ _ _ h => h) (Or.inr ⟨by rfl, rfl⟩) ?_ ?_
                rotate_left
                ·simp only [Act.put, sI_, sZ_, sS_, i64_w, i32_w]
                 rfl
                refine pure_ (i := 28) (N := some 111) (v := undef) (a' := ?_) #[true, true, true, true, true, true, true, true, true, true, true, true, true, true, true, true, true, true, true, true, true, true, true, true, true, true, true, true, true, false, false, false] rfl rfl (any_of HT_.out (by kernel_rfl)) (fun _ _ _ h => h) (Or.inr ⟨by rfl, rfl⟩) ?_ ?_
                rotate_left
                ·simp only [Act.put, sI_, sZ_, sS_, i64_w, i32_w]
                 rfl
                refine pure_ (i := 29) (N := some 112) (v := undef) (a' := ?_) #[true, true, true, true, true, true, true, true, true, true, true, true, true, true, true, true, true, true, true, true, true, true, true, true, true, true, true, true, true, true, false, false] rfl rfl (any_of HT_.out (by kernel_rfl)) (fun _ _ _ h => h) (Or.inr ⟨by rfl, rfl⟩) ?_ ?_
                rotate_left
                ·simp only [Act.put, sI_, sZ_, sS_, i64_w, i32_w]
                 rfl
                refine pure_ (i := 30) (N := some 113) (v := undef) (a' := ?_) #[true, true, true, true, true, true, true, true, true, true, true, true, true, true, true, true, true, true, true, true, true, true, true, true, true, true, true, true, true, true, true, false] rfl rfl (any_of HT_.out (by kernel_rfl)) (fun _ _ _ h => h) (Or.inr ⟨by rfl, rfl⟩) ?_ ?_
                rotate_left
                ·simp only [Act.put, sI_, sZ_, sS_, i64_w, i32_w]
                 rfl
                refine pure_ (i := 31) (N := some 114) (v := ?_) (a' := ?_) #[true, true, true, true, true, true, true, true, true, true, true, true, true, true, true, true, true, true, true, true, true, true, true, true, true, true, true, true, true, true, true, true] rfl rfl (any_of HT_.out (by kernel_rfl)) (fun _ _ _ h => h) (Or.inl ⟨by rfl, ?_⟩) ?_ ?_
                rotate_left
                ·intro w'
                 go_simp
                 with_reducible rfl
                rotate_left
                ·simp only [Act.put, sI_, sZ_, sS_, i64_w, i32_w]
                 rfl
                refine done_ (done_of HT_.out (by kernel_rfl)) ?_
                try go_wp2
                go_ret
                exact ⟨by first | rfl | (simp [errW_none, errW_some] <;> rfl) | (simp [*, errW_none, errW_some] <;> rfl), by repeat (first | (with_reducible first | exact HB.out | apply bA_ | apply bN_ | apply bD_ | refine bE_ ?_ GE178.out | refine bE_ ?_ GE186.out) | exact HB.out)⟩
              ·rw [if_neg c45] at H
               exact absurd H (by simp)
             ·rw [if_neg c44] at H
              exact absurd H (by simp)
            ·rw [if_neg c43] at H
             have c43b0 : decide (x78_4 < (l0_3.length : Int)) = false := decide_eq_false c43
             clear c43
             obtain rfl := Option.some.inj H
             go_wp2
             go_ret
             exact ⟨by first | rfl | (simp [errW_none, errW_some] <;> rfl) | (simp [*, errW_none, errW_some] <;> rfl), by repeat (first | (with_reducible first | exact HB.out | apply bA_ | apply bN_ | apply bD_ | refine bE_ ?_ GE178.out) | exact HB.out)⟩

end Go.Proofs.Yticedidmodmdnaa.PFnExactDiskOk
