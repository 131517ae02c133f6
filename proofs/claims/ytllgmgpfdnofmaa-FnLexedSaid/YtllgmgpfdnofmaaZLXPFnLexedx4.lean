-- Written by a program of this session, which builds on the kit's print
import Derived.Test.YtllgmgpfdnofmaaZLXPFnLexedx0
import Derived.Test.YtllgmgpfdnofmaaZLXPFnLexedx2
import Derived.Test.YtllgmgpfdnofmaaZLXPFnLexedx3
namespace Go.Proofs.Ytllgmgpfdnofmaa.PFnLexed
open Go.RowKit Go.Proofs.YtllgmgpfdnofmaaW.PrintWords Go.Proofs.YtllgmgpfdnofmaaW.PrintLast Go.Proofs.YtllgmgpfdnofmaaW.PrintMore Go.Proofs.Ytllgmgpfdnofmaa.Xtra
attribute [local go_sem] max2_int min2_int max_two min_two max_three min_three max_four min_four str_leq str_gtr str_geq setCell_drewN cell_set2 cell_set3   -- for this text's walks alone
set_option linter.unusedVariables false
set_option linter.unusedSimpArgs false

/-! ### impl_JoinTokens: function 55 -/
def impl_JoinTokens.l0 : Nat → List ByteArray → List (S73) → Int → Int → Option (ByteArray)
 | 0, _, _, _, _ => none
 | k + 1, x3, x6, x7, x8 => if x8 < x7 then (if 0 ≤ x8 then (if x8 < (x6.length : Int) then (if x3.length < 8796093022208 then (impl_JoinTokens.l0 k (x3 ++ [(rd_T73 x6 x8).f1]) x6 x7 (wrap64 (x8 + 1))) else (none)) else (none)) else (none)) else ((strings_Join.f x3 (⟨#[32]⟩ : ByteArray)).bind fun t189 => (some t189))
def impl_JoinTokens.f (k : Nat) (l0 : List (S73)) : Option (ByteArray) := impl_JoinTokens.l0 k ([] : List ByteArray) l0 (l0.length : Int) 0
theorem impl_JoinTokens.mono_l : ∀ k, (∀ y0 y1 y2 y3, LeO (impl_JoinTokens.l0 k y0 y1 y2 y3) (impl_JoinTokens.l0 (k + 1) y0 y1 y2 y3))
 | 0 => fun _ _ _ _ r h => by simp [impl_JoinTokens.l0] at h
 | k + 1 => by
  have ih0 := impl_JoinTokens.mono_l k
  ·intro y0 y1 y2 y3
   unfold impl_JoinTokens.l0
   repeat' first
   | (with_reducible exact ih0 _ _ _ _)
   | (with_reducible exact LeO.refl _)
   | (with_reducible exact LeO.none _)
   | (with_reducible refine LeO.ite ?_ ?_)
   | (with_reducible refine LeO.bind ?_ (fun _ => ?_))
   | exact ih0 _ _ _ _
   | exact LeO.none _
   | refine LeO.ite ?_ ?_
   | refine LeO.bind ?_ (fun _ => ?_)
theorem impl_JoinTokens.mono : ∀ a0 k, LeO (impl_JoinTokens.f k a0) (impl_JoinTokens.f (k + 1) a0) := by
 intro a0 k
 have ih0 := impl_JoinTokens.mono_l k
 unfold impl_JoinTokens.f
 repeat' first
   | (with_reducible exact ih0 _ _ _ _)
   | (with_reducible exact LeO.refl _)
   | (with_reducible exact LeO.none _)
   | (with_reducible refine LeO.ite ?_ ?_)
   | (with_reducible refine LeO.bind ?_ (fun _ => ?_))
   | exact ih0 _ _ _ _
   | exact LeO.none _
   | refine LeO.ite ?_ ?_
   | refine LeO.bind ?_ (fun _ => ?_)
set_option maxHeartbeats 8000000 in
set_option maxRecDepth 100000 in
theorem impl_JoinTokens.calls (k : Nat) (A0 : Option Addr) (c0 : Nat) (l0 : List (S73)) (r : ByteArray) (w : World) (hr0 : Kd.C k73 w A0 l0.length l0) (hc0 : l0.length ≤ c0) (h : impl_JoinTokens.f k l0 = some r) :
  Calls Try.prog 55 #[.slice A0 l0.length c0] w fun e w' => e = .returned (.string r) ∧ Below w.heap.size w w' := by
 have hu73 := Try.underlying73
 have HR0 := aM_ hr0
 have HC0 := aM_ hc0
 clear hr0 hc0
 have HB := aM_ (Below.refl w.heap.size w)
 have H : (impl_JoinTokens.l0 k ([] : List ByteArray) l0 (l0.length : Int) 0) = some r := h
 clear h
 have H' := aM_ H
 clear H
 go_enter Try.func55, Try.ntmps55
 go_wp2
 (try simp only [Act.put, sI_, sS_, sZ_])
 go_loopg [3, 8] k (fun kq v3 v8 w' => ∃ (x3_1 : List ByteArray) (x8_1 : Int), v8 = .int .i64 x8_1 ∧ Aside0 (impl_JoinTokens.l0 kq x3_1 l0 (l0.length : Int) x8_1 = some r) ∧ Aside0 (kq ≤ k) ∧ Aside0 (Kd.R Kd.string 9 w' w.heap.size (fun _ => True) v3 x3_1) ∧ Aside0 (Below w.heap.size w w'))
 case atStart => exact ⟨(([] : List ByteArray)), (0), (by first | rfl | (simp; done) | (simp [*]; done)), H', ⟨Nat.le_refl _⟩, ⟨by first | exact Kd.R_nil _ _ _ _ _ | exact Kd.N_nil _ _ _ _ _ | exact Kd.V_nil _ _ _ _ _ | exact Kd.Q_nil _ _ _ _ _ | exact Kd.S_nil _ _ _ _ _⟩, ⟨by repeat (first | (with_reducible first | exact HB.out | apply bA_ | apply bN_ | apply bD_) | exact HB.out)⟩⟩
 case round =>
  clear H'
  obtain ⟨x3_1, x8_1, rfl, HA, HK1, HO_3, HB⟩ := hrel
  cases gk with
  | zero => exact absurd HA.out (by simp [impl_JoinTokens.l0])
  | succ k1 =>
   have H := HA.out
   clear HA
   simp only [impl_JoinTokens.l0] at H
   by_cases c2 : x8_1 < (l0.length : Int)
   ·rw [if_pos c2] at H
    have c2b0 : decide (x8_1 < (l0.length : Int)) = true := decide_eq_true c2
    clear c2
    by_cases c3 : 0 ≤ x8_1
    ·rw [if_pos c3] at H
     have c3b0 : decide (0 ≤ x8_1) = true := decide_eq_true c3
     clear c3
     by_cases c4 : x8_1 < (l0.length : Int)
     ·rw [if_pos c4] at H
      have c4b0 : decide (x8_1 < (l0.length : Int)) = true := decide_eq_true c4
      clear c4
      by_cases c5 : x3_1.length < 8796093022208
      ·rw [if_pos c5] at H
       have LMc5 := aM_ c5
       clear c5
       obtain ⟨y186, hy186⟩ : ∃ y_ : List ByteArray, y_ = (x3_1 ++ [(rd_T73 l0 x8_1).f1]) := ⟨_, rfl⟩
       replace H : (impl_JoinTokens.l0 k1 y186 l0 (l0.length : Int) (wrap64 (x8_1 + 1))) = some r := by first | (rw [hy186]; with_reducible exact H) | (have H2_ := (Option.bind_some _ _).symm.trans H; rw [hy186]; with_reducible exact H2_) | (have H2_ := (Option.bind_some _ _).symm.trans H; with_reducible exact H2_) | with_reducible exact H | (rw [hy186]; exact H) | exact H
       have Ny186 := aM_ hy186
       clear hy186
       have H' := aM_ H
       clear H
       have p184 : 0 ≤ (x8_1 : Int) := oT_ (by first | (with_reducible assumption) | assumption)
       have q184 : x8_1 < (l0.length : Int) := oT_ (by first | (with_reducible assumption) | assumption)
       obtain ⟨ad184, e184, hx184_0, hx184_1⟩ := at_T73 HR0.out x8_1 p184 q184
       cases e184
       replace hx184_0 := (HB.out.cell (wL_ w _ hx184_0)).trans hx184_0
       replace hx184_1 := (HB.out.cell (wL_ w _ hx184_1)).trans hx184_1
       replace p184 := eq_true p184
       replace q184 := eq_true q184
       go_wp2_with (first | ((with_reducible refine gate_dst (N := 5) rfl ?_); refine box_event ?hg (N := 5) ?hd (cs := #[.int .i64 0, .string (⟨#[]⟩ : ByteArray)]) (t := 73) ?hr ?_; (case hd => rfl); (case hg => rfl); (case hr => first | (go_simp; done) | (go_simp; rfl)); intro gb185 hg w6 hbox hb; have n0_ := aM_ (Kd.R_below (by (with_reducible repeat (first | apply rA_ | apply rN_ | apply rD_)); exact HO_3.out) hb); have n1_ := aM_ (bT_ (by repeat (first | (with_reducible first | exact HB.out | apply bA_ | apply bN_ | apply bD_) | exact HB.out)) hb); have n2_ := aM_ (hbox); have n3_ := aM_ ((by rw [hg]; exact (bS_ (by repeat (first | (with_reducible first | exact HB.out | apply bA_ | apply bN_ | apply bD_) | exact HB.out))) : w.heap.size ≤ gb185)); have n4_ := aM_ ((by rw [hg]; exact (bS_ (by repeat (first | (with_reducible first | exact HB.out | apply bA_ | apply bN_ | apply bD_) | exact HB.out))) : w.heap.size ≤ gb185)); clear HO_3; clear HB; have HO_3 := n0_; have HB := n1_; have BK185 := n2_; have GW185 := n3_; have GE185 := n4_; clear n0_ n1_ n2_ n3_ n4_; clear hb hbox hg; have hcz7_0 : w6.cell? ⟨gb185, 0, none⟩ = some (.int .i64 0) := (kC_ BK185.out 0).trans rfl; have hcz7_1 : w6.cell? ⟨gb185, 1, none⟩ = some (.string (⟨#[]⟩ : ByteArray)) := (kC_ BK185.out 1).trans rfl; have hfz7_0 := kF_ BK185.out 0; have hfz7_1 := kF_ BK185.out 1) | ((with_reducible refine gate_builtin (b := .append) (xs := #[.tmp 12, .tmp 15]) rfl ?_); at_builtin; refine Kd.R_append Kd.string (w0 := w) w.heap.size rfl (.tmp 12) (.tmp 15) 22 9 (.string ⟨#[]⟩) 16 rfl Try.underlying22 info9 rfl (by decide) (by omega) u3 x3_1 ((rd_T73 l0 x8_1).f1) [.string ((rd_T73 l0 x8_1).f1)] (fun _ => True) (fun _ => False) rfl (by first | (go_simp; done) | (go_simp; rfl)) ?aP (fun _ hk => hk.elim) ?aF ?aO ?aB ?aS ?aL ?_; (case aP => exact rfl); (case aB => exact (by repeat (first | (with_reducible first | exact HB.out | apply bA_ | apply bN_ | apply bD_ | refine bE_ ?_ GE185.out) | exact HB.out))); (case aF => exact (fun _ _ => trivial)); (case aO => exact (by (with_reducible repeat (first | apply rA_ | apply rN_ | apply rD_)); exact Kd.R_mono (Kd.R_far (p := ⟨gb185, 1, none⟩) (Kd.R_far (p := ⟨gb185, 0, none⟩) (Kd.R_types HO_3.out BK185.out (by decide)) (fun _ hk => hk.2) (.int .i64 ((rd_T73 l0 x8_1).f0))) (fun _ hk => hk.2) (.string ((rd_T73 l0 x8_1).f1))) (fun _ hk => trivial))); (case aS => exact (bS_ (by repeat (first | (with_reducible first | exact HB.out | apply bA_ | apply bN_ | apply bD_ | refine bE_ ?_ GE185.out) | exact HB.out)))); (case aL => have := LMc5.out; omega); intro v187 w8 ho hb hg hat; rw [← Ny186.out] at ho; have n0_ := aM_ (blk_grown (g := gb185) (o := .cells #[.int .i64 ((rd_T73 l0 x8_1).f0), .string ((rd_T73 l0 x8_1).f1)] 73 (0, 0)) (by (with_reducible repeat (first | refine kN_ ?_ _ | refine kD_ ?_ | refine kA_ ?_ _)); refine kP_ (cs := #[.int .i64 ((rd_T73 l0 x8_1).f0), .string (⟨#[]⟩ : ByteArray)]) ?_ 1 _ rfl; (with_reducible repeat (first | refine kN_ ?_ _ | refine kD_ ?_ | refine kA_ ?_ _)); refine kP_ (cs := #[.int .i64 0, .string (⟨#[]⟩ : ByteArray)]) ?_ 0 _ rfl; (with_reducible repeat (first | refine kN_ ?_ _ | refine kD_ ?_ | refine kA_ ?_ _)); exact BK185.out) hg (Kd.R_ne HO_3.out BK185.out (by decide))); have n1_ := aM_ (hb); have n2_ := aM_ (ho); clear BK185; clear HB; clear HO_3; have BK185 := n0_; have HB := n1_; have HO188 := n2_; clear n0_ n1_ n2_; clear ho hb hg hat))
       go_roundg k1
       case measure => have := HK1.out; omega
       case rel => exact ⟨(y186), (wrap64 (x8_1 + 1)), (by first | rfl | (simp; done) | (simp [*]; done)), H', ⟨by have := HK1.out; omega⟩, ⟨by (with_reducible repeat (first | apply rA_ | apply rN_ | apply rD_)); exact HO188.out⟩, ⟨by repeat (first | (with_reducible first | exact HB.out | apply bA_ | apply bN_ | apply bD_ | refine bE_ ?_ GE185.out) | exact HB.out)⟩⟩
      ·rw [if_neg c5] at H
       exact absurd H (by simp)
     ·rw [if_neg c4] at H
      exact absurd H (by simp)
    ·rw [if_neg c3] at H
     exact absurd H (by simp)
   ·rw [if_neg c2] at H
    have c2b0 : decide (x8_1 < (l0.length : Int)) = false := decide_eq_false c2
    clear c2
    replace H := oB_ H
    obtain ⟨t189, A90, H⟩ := H
    replace H : (some t189) = some r := H
    have A9 := aM_ A90
    clear A90
    obtain rfl := Option.some.inj H
    obtain ⟨Ao10, co10, eo10⟩ := Kd.R_slice HO_3.out
    subst eo10
    go_wp2_with (first | ((with_reducible refine gate_callee (f := 122) rfl ?_); refine goesL_ (some 19) rfl rfl Try.func122 (by kernel_rfl) rfl #[.slice Ao10 x3_1.length co10, .string (⟨#[32]⟩ : ByteArray)] rfl (by (try simp only [mA_, mC_, mN_]); first | done | rfl | (simp only [lD_, lT_]; rfl)) ?_; (with_reducible refine (strings_Join.calls _ _ x3_1 (⟨#[32]⟩ : ByteArray) t189 _ ?side1 ?side2 A9.out).mono ?_); (case side1 => repeat (first | exact (Kd.R_reads' HO_3.out).2.2 | (with_reducible refine cA_ ?_ _) | (with_reducible refine cN_ ?_ _) | (with_reducible refine cD_ ?_))); (case side2 => exact (Kd.R_reads' HO_3.out).2.1); rintro e w11 ⟨rfl, hb⟩; refine ⟨_, rfl, ?_⟩; have n0_ := aM_ (Kd.R_below (by (with_reducible repeat (first | apply rA_ | apply rN_ | apply rD_)); exact HO_3.out) hb); have n1_ := aM_ (bT_ (by repeat (first | (with_reducible first | exact HB.out | apply bA_ | apply bN_ | apply bD_) | exact HB.out)) hb); clear HO_3; clear HB; have HO_3 := n0_; have HB := n1_; clear n0_ n1_; (try clear hb); (try clear hb2); (try clear hk); (try clear hi)))
    go_ret
    exact ⟨by first | rfl | (simp [errW_none, errW_some] <;> rfl) | (simp [*, errW_none, errW_some] <;> rfl), by repeat (first | (with_reducible first | exact HB.out | apply bA_ | apply bN_ | apply bD_) | exact HB.out)⟩

/-! ### spec_JoinTokens: function 123 -/
def spec_JoinTokens.l0 : Nat → List (S73) → ByteArray → Int → Option (ByteArray)
 | 0, _, _, _ => none
 | k + 1, x0, x3, x4 => if x4 < (x0.length : Int) then (if x4 > 0 then (if x3.size + 1 ≤ 9223372036854775807 then (if 0 ≤ x4 then (if (x3 ++ (⟨#[32]⟩ : ByteArray)).size + ((rd_T73 x0 x4).f1).size ≤ 9223372036854775807 then (spec_JoinTokens.l0 k x0 ((x3 ++ (⟨#[32]⟩ : ByteArray)) ++ ((rd_T73 x0 x4).f1)) (wrap64 (x4 + 1))) else (none)) else (none)) else (none)) else (if 0 ≤ x4 then (if x3.size + ((rd_T73 x0 x4).f1).size ≤ 9223372036854775807 then (spec_JoinTokens.l0 k x0 (x3 ++ ((rd_T73 x0 x4).f1)) (wrap64 (x4 + 1))) else (none)) else (none))) else (some x3)
def spec_JoinTokens.f (k : Nat) (l0 : List (S73)) : Option (ByteArray) := spec_JoinTokens.l0 k l0 (⟨#[]⟩ : ByteArray) 0
theorem spec_JoinTokens.mono_l : ∀ k, (∀ y0 y1 y2, LeO (spec_JoinTokens.l0 k y0 y1 y2) (spec_JoinTokens.l0 (k + 1) y0 y1 y2))
 | 0 => fun _ _ _ r h => by simp [spec_JoinTokens.l0] at h
 | k + 1 => by
  have ih0 := spec_JoinTokens.mono_l k
  ·intro y0 y1 y2
   unfold spec_JoinTokens.l0
   repeat' first
   | (with_reducible exact ih0 _ _ _)
   | (with_reducible exact LeO.refl _)
   | (with_reducible exact LeO.none _)
   | (with_reducible refine LeO.ite ?_ ?_)
   | (with_reducible refine LeO.bind ?_ (fun _ => ?_))
   | exact ih0 _ _ _
   | exact LeO.none _
   | refine LeO.ite ?_ ?_
   | refine LeO.bind ?_ (fun _ => ?_)
theorem spec_JoinTokens.mono : ∀ a0 k, LeO (spec_JoinTokens.f k a0) (spec_JoinTokens.f (k + 1) a0) := by
 intro a0 k
 have ih0 := spec_JoinTokens.mono_l k
 unfold spec_JoinTokens.f
 repeat' first
   | (with_reducible exact ih0 _ _ _)
   | (with_reducible exact LeO.refl _)
   | (with_reducible exact LeO.none _)
   | (with_reducible refine LeO.ite ?_ ?_)
   | (with_reducible refine LeO.bind ?_ (fun _ => ?_))
   | exact ih0 _ _ _
   | exact LeO.none _
   | refine LeO.ite ?_ ?_
   | refine LeO.bind ?_ (fun _ => ?_)
set_option maxHeartbeats 8000000 in
set_option maxRecDepth 100000 in
theorem spec_JoinTokens.calls (k : Nat) (A0 : Option Addr) (c0 : Nat) (l0 : List (S73)) (r : ByteArray) (w : World) (hr0 : Kd.C k73 w A0 l0.length l0) (hc0 : l0.length ≤ c0) (h : spec_JoinTokens.f k l0 = some r) :
  Calls Try.prog 123 #[.slice A0 l0.length c0] w fun e w' => e = .returned (.string r) ∧ Drawn0 w w' := by
 have HR0 := aM_ hr0
 have HC0 := aM_ hc0
 clear hr0 hc0
 have H : (spec_JoinTokens.l0 k l0 (⟨#[]⟩ : ByteArray) 0) = some r := h
 clear h
 have H' := aM_ H
 clear H
 go_enter Try.func123, Try.ntmps123
 go_wp2
 (try simp only [Act.put, sI_, sS_, sZ_])
 go_loopg [3, 4] k (fun kq v3 v4 w' => ∃ (x3_1 : ByteArray) (x4_1 : Int), v3 = .string x3_1 ∧ v4 = .int .i64 x4_1 ∧ Aside0 (spec_JoinTokens.l0 kq l0 x3_1 x4_1 = some r) ∧ Aside0 (kq ≤ k) ∧ Drawn0 w w')
 case atStart => exact ⟨((⟨#[]⟩ : ByteArray)), (0), (by first | rfl | (simp; done) | (simp [*]; done)), (by first | rfl | (simp; done) | (simp [*]; done)), H', ⟨Nat.le_refl _⟩, by repeat (first | exact Drawn0.refl _ | apply Drawn0.step)⟩
 case round =>
  clear H'
  try clear c1
  obtain ⟨x3_1, x4_1, rfl, rfl, HA, HK1, ⟨m1, rfl⟩⟩ := hrel
  cases gk with
  | zero => exact absurd HA.out (by simp [spec_JoinTokens.l0])
  | succ k1 =>
   have H := HA.out
   clear HA
   simp only [spec_JoinTokens.l0] at H
   by_cases c2 : x4_1 < (l0.length : Int)
   ·rw [if_pos c2] at H
    have c2b0 : decide (x4_1 < (l0.length : Int)) = true := decide_eq_true c2
    clear c2
    by_cases c3 : x4_1 > 0
    ·rw [if_pos c3] at H
     have c3b0 : decide (0 < x4_1) = true := decide_eq_true c3
     clear c3
     by_cases c4 : x3_1.size + 1 ≤ 9223372036854775807
     ·rw [if_pos c4] at H
      have c4b0 := eq_true c4
      have c4b1 : decide (x3_1.size + 1 ≤ 9223372036854775807) = true := decide_eq_true c4
      try have c4b2 : (9223372036854775807 < x3_1.size + 1) = False := eq_false (Nat.not_lt.2 c4)
      by_cases c5 : 0 ≤ x4_1
      ·rw [if_pos c5] at H
       have c5b0 : decide (0 ≤ x4_1) = true := decide_eq_true c5
       clear c5
       by_cases c6 : (x3_1 ++ (⟨#[32]⟩ : ByteArray)).size + ((rd_T73 l0 x4_1).f1).size ≤ 9223372036854775807
       ·rw [if_pos c6] at H
        have c6b0 := eq_true c6
        have c6b1 : decide ((x3_1 ++ (⟨#[32]⟩ : ByteArray)).size + ((rd_T73 l0 x4_1).f1).size ≤ 9223372036854775807) = true := decide_eq_true c6
        try have c6b2 : (9223372036854775807 < (x3_1 ++ (⟨#[32]⟩ : ByteArray)).size + ((rd_T73 l0 x4_1).f1).size) = False := eq_false (Nat.not_lt.2 c6)
        have H' := aM_ H
        clear H
        have p190 : 0 ≤ (x4_1 : Int) := oT_ (by first | (with_reducible assumption) | assumption)
        have q190 : x4_1 < (l0.length : Int) := oT_ (by first | (with_reducible assumption) | assumption)
        obtain ⟨ad190, e190, hx190_0, hx190_1⟩ := at_T73 HR0.out x4_1 p190 q190
        cases e190
        replace p190 := eq_true p190
        replace q190 := eq_true q190
        go_wp2
        go_roundg k1
        case measure => have := HK1.out; omega
        case rel => exact ⟨((x3_1 ++ (⟨#[32]⟩ : ByteArray)) ++ ((rd_T73 l0 x4_1).f1)), (wrap64 (x4_1 + 1)), (by first | rfl | (simp; done) | (simp [*]; done)), (by first | rfl | (simp; done) | (simp [*]; done)), H', ⟨by have := HK1.out; omega⟩, by repeat (first | exact Drawn0.refl _ | apply Drawn0.step)⟩
       ·rw [if_neg c6] at H
        exact absurd H (by simp)
      ·rw [if_neg c5] at H
       exact absurd H (by simp)
     ·rw [if_neg c4] at H
      exact absurd H (by simp)
    ·rw [if_neg c3] at H
     have c3b0 : decide (0 < x4_1) = false := decide_eq_false c3
     clear c3
     by_cases c7 : 0 ≤ x4_1
     ·rw [if_pos c7] at H
      have c7b0 : decide (0 ≤ x4_1) = true := decide_eq_true c7
      clear c7
      by_cases c8 : x3_1.size + ((rd_T73 l0 x4_1).f1).size ≤ 9223372036854775807
      ·rw [if_pos c8] at H
       have c8b0 := eq_true c8
       have c8b1 : decide (x3_1.size + ((rd_T73 l0 x4_1).f1).size ≤ 9223372036854775807) = true := decide_eq_true c8
       try have c8b2 : (9223372036854775807 < x3_1.size + ((rd_T73 l0 x4_1).f1).size) = False := eq_false (Nat.not_lt.2 c8)
       have H' := aM_ H
       clear H
       have p191 : 0 ≤ (x4_1 : Int) := oT_ (by first | (with_reducible assumption) | assumption)
       have q191 : x4_1 < (l0.length : Int) := oT_ (by first | (with_reducible assumption) | assumption)
       obtain ⟨ad191, e191, hx191_0, hx191_1⟩ := at_T73 HR0.out x4_1 p191 q191
       cases e191
       replace p191 := eq_true p191
       replace q191 := eq_true q191
       go_wp2
       go_roundg k1
       case measure => have := HK1.out; omega
       case rel => exact ⟨(x3_1 ++ ((rd_T73 l0 x4_1).f1)), (wrap64 (x4_1 + 1)), (by first | rfl | (simp; done) | (simp [*]; done)), (by first | rfl | (simp; done) | (simp [*]; done)), H', ⟨by have := HK1.out; omega⟩, by repeat (first | exact Drawn0.refl _ | apply Drawn0.step)⟩
      ·rw [if_neg c8] at H
       exact absurd H (by simp)
     ·rw [if_neg c7] at H
      exact absurd H (by simp)
   ·rw [if_neg c2] at H
    have c2b0 : decide (x4_1 < (l0.length : Int)) = false := decide_eq_false c2
    clear c2
    obtain rfl := Option.some.inj H
    go_wp2
    go_ret
    exact ⟨by first | rfl | (simp; done) | (simp [*]; done), by repeat (first | exact Drawn0.refl _ | apply Drawn0.step)⟩

/-! ### spec_DrawLex: function 56 -/
mutual
def spec_DrawLex.j0 : Nat → ByteArray → List Int → Int → Int → Option (ByteArray)
 | 0, _, _, _, _ => none
 | k + 1, x4, x196000, x196001, x196002 => (spec_l1Once.f x196000 x196001 x196002 200).bind fun bt211 => (if bt211.1 = true then (spec_DrawLex.l0 k (⟨#[]⟩ : ByteArray) 0 x196000 bt211.2.1 bt211.2.2) else (some x4))
def spec_DrawLex.l0 : Nat → ByteArray → Int → List Int → Int → Int → Option (ByteArray)
 | 0, _, _, _, _, _ => none
 | k + 1, x4, x5, x196000, x196001, x196002 => (spec_l1Below.f x196000 x196001 x196002 2).bind fun bt214 => (if x5 < (wrap64 (500 + bt214.1)) then (if x4.size + 1 ≤ 9223372036854775807 then (spec_DrawLex.l0 k (x4 ++ (⟨#[59]⟩ : ByteArray)) (wrap64 (x5 + 1)) x196000 bt214.2.1 bt214.2.2) else (none)) else (some x4))
end
def spec_DrawLex.f (k : Nat) (l0 : List Int) : Option (ByteArray) := (spec_l1New.f k l0).bind fun bt192 => ((spec_l8Tokens.f k bt192.1 bt192.2.1 bt192.2.2 8).bind fun bt196 => ((spec_JoinTokens.f k bt196.1).bind fun t201 => ((spec_l1Once.f bt192.1 bt196.2.1 bt196.2.2 3).bind fun bt202 => (if bt202.1 = true then ((spec_l1Str.f bt192.1 bt202.2.1 bt202.2.2 (([(⟨#[32, 49, 97]⟩ : ByteArray), (⟨#[32, 65]⟩ : ByteArray), (⟨#[255]⟩ : ByteArray), (⟨#[32, 110, 105, 110, 101, 108, 101, 116, 116, 101]⟩ : ByteArray), (⟨#[97, 123, 98, 125]⟩ : ByteArray), (⟨#[9, 13, 10]⟩ : ByteArray), (⟨#[40]⟩ : ByteArray), (⟨#[97, 49, 32, 44, 59]⟩ : ByteArray)] : List ByteArray))).bind fun bt208 => (if t201.size + bt208.1.size ≤ 9223372036854775807 then (spec_DrawLex.j0 k (t201 ++ bt208.1) bt192.1 bt208.2.1 bt208.2.2) else (none))) else (spec_DrawLex.j0 k t201 bt192.1 bt202.2.1 bt202.2.2)))))
theorem spec_DrawLex.mono_l : ∀ k, (∀ y0 y1 y2 y3, LeO (spec_DrawLex.j0 k y0 y1 y2 y3) (spec_DrawLex.j0 (k + 1) y0 y1 y2 y3)) ∧ (∀ y0 y1 y2 y3 y4, LeO (spec_DrawLex.l0 k y0 y1 y2 y3 y4) (spec_DrawLex.l0 (k + 1) y0 y1 y2 y3 y4))
 | 0 => ⟨fun _ _ _ _ r h => by simp [spec_DrawLex.j0] at h, fun _ _ _ _ _ r h => by simp [spec_DrawLex.l0] at h⟩
 | k + 1 => by
  obtain ⟨ih0, ih1⟩ := spec_DrawLex.mono_l k
  refine ⟨?_, ?_⟩
  ·intro y0 y1 y2 y3
   unfold spec_DrawLex.j0
   repeat' first
   | (with_reducible exact ih0 _ _ _ _)
   | (with_reducible exact ih1 _ _ _ _ _)
   | (with_reducible exact spec_JoinTokens.mono _ _)
   | (with_reducible exact spec_l1New.mono _ _)
   | (with_reducible exact spec_l8Tokens.mono _ _ _ _ _)
   | (with_reducible exact LeO.refl _)
   | (with_reducible exact LeO.none _)
   | (with_reducible refine LeO.ite ?_ ?_)
   | (with_reducible refine LeO.bind ?_ (fun _ => ?_))
   | exact ih0 _ _ _ _
   | exact ih1 _ _ _ _ _
   | exact spec_JoinTokens.mono _ _
   | exact spec_l1New.mono _ _
   | exact spec_l8Tokens.mono _ _ _ _ _
   | exact LeO.none _
   | refine LeO.ite ?_ ?_
   | refine LeO.bind ?_ (fun _ => ?_)
  ·intro y0 y1 y2 y3 y4
   unfold spec_DrawLex.l0
   repeat' first
   | (with_reducible exact ih0 _ _ _ _)
   | (with_reducible exact ih1 _ _ _ _ _)
   | (with_reducible exact spec_JoinTokens.mono _ _)
   | (with_reducible exact spec_l1New.mono _ _)
   | (with_reducible exact spec_l8Tokens.mono _ _ _ _ _)
   | (with_reducible exact LeO.refl _)
   | (with_reducible exact LeO.none _)
   | (with_reducible refine LeO.ite ?_ ?_)
   | (with_reducible refine LeO.bind ?_ (fun _ => ?_))
   | exact ih0 _ _ _ _
   | exact ih1 _ _ _ _ _
   | exact spec_JoinTokens.mono _ _
   | exact spec_l1New.mono _ _
   | exact spec_l8Tokens.mono _ _ _ _ _
   | exact LeO.none _
   | refine LeO.ite ?_ ?_
   | refine LeO.bind ?_ (fun _ => ?_)
theorem spec_DrawLex.mono : ∀ a0 k, LeO (spec_DrawLex.f k a0) (spec_DrawLex.f (k + 1) a0) := by
 intro a0 k
 obtain ⟨ih0, ih1⟩ := spec_DrawLex.mono_l k
 unfold spec_DrawLex.f
 repeat' first
   | (with_reducible exact ih0 _ _ _ _)
   | (with_reducible exact ih1 _ _ _ _ _)
   | (with_reducible exact spec_JoinTokens.mono _ _)
   | (with_reducible exact spec_l1New.mono _ _)
   | (with_reducible exact spec_l8Tokens.mono _ _ _ _ _)
   | (with_reducible exact LeO.refl _)
   | (with_reducible exact LeO.none _)
   | (with_reducible refine LeO.ite ?_ ?_)
   | (with_reducible refine LeO.bind ?_ (fun _ => ?_))
   | exact ih0 _ _ _ _
   | exact ih1 _ _ _ _ _
   | exact spec_JoinTokens.mono _ _
   | exact spec_l1New.mono _ _
   | exact spec_l8Tokens.mono _ _ _ _ _
   | exact LeO.none _
   | refine LeO.ite ?_ ?_
   | refine LeO.bind ?_ (fun _ => ?_)
set_option maxHeartbeats 8000000 in
set_option maxRecDepth 100000 in
theorem spec_DrawLex.calls (k : Nat) (A0 : Option Addr) (c0 : Nat) (l0 : List Int) (r : ByteArray) (w : World) (hr0 : Kd.C (Kd.int .u8) w A0 l0.length l0) (hc0 : l0.length ≤ c0) (h : spec_DrawLex.f k l0 = some r) :
  Calls Try.prog 56 #[.slice A0 l0.length c0] w fun e w' => e = .returned (.string r) ∧ Below w.heap.size w w' := by
 have HR0 := aM_ hr0
 have HC0 := aM_ hc0
 clear hr0 hc0
 have HB := aM_ (Below.refl w.heap.size w)
 have H : ((spec_l1New.f k l0).bind fun bt192 => ((spec_l8Tokens.f k bt192.1 bt192.2.1 bt192.2.2 8).bind fun bt196 => ((spec_JoinTokens.f k bt196.1).bind fun t201 => ((spec_l1Once.f bt192.1 bt196.2.1 bt196.2.2 3).bind fun bt202 => (if bt202.1 = true then ((spec_l1Str.f bt192.1 bt202.2.1 bt202.2.2 (([(⟨#[32, 49, 97]⟩ : ByteArray), (⟨#[32, 65]⟩ : ByteArray), (⟨#[255]⟩ : ByteArray), (⟨#[32, 110, 105, 110, 101, 108, 101, 116, 116, 101]⟩ : ByteArray), (⟨#[97, 123, 98, 125]⟩ : ByteArray), (⟨#[9, 13, 10]⟩ : ByteArray), (⟨#[40]⟩ : ByteArray), (⟨#[97, 49, 32, 44, 59]⟩ : ByteArray)] : List ByteArray))).bind fun bt208 => (if t201.size + bt208.1.size ≤ 9223372036854775807 then (spec_DrawLex.j0 k (t201 ++ bt208.1) bt192.1 bt208.2.1 bt208.2.2) else (none))) else (spec_DrawLex.j0 k t201 bt192.1 bt202.2.1 bt202.2.2)))))) = some r := h
 clear h
 replace H := oB_ H
 obtain ⟨⟨t192, t193, t194⟩, A20, H⟩ := H
 replace H : ((spec_l8Tokens.f k t192 t193 t194 8).bind fun bt196 => ((spec_JoinTokens.f k bt196.1).bind fun t201 => ((spec_l1Once.f t192 bt196.2.1 bt196.2.2 3).bind fun bt202 => (if bt202.1 = true then ((spec_l1Str.f t192 bt202.2.1 bt202.2.2 (([(⟨#[32, 49, 97]⟩ : ByteArray), (⟨#[32, 65]⟩ : ByteArray), (⟨#[255]⟩ : ByteArray), (⟨#[32, 110, 105, 110, 101, 108, 101, 116, 116, 101]⟩ : ByteArray), (⟨#[97, 123, 98, 125]⟩ : ByteArray), (⟨#[9, 13, 10]⟩ : ByteArray), (⟨#[40]⟩ : ByteArray), (⟨#[97, 49, 32, 44, 59]⟩ : ByteArray)] : List ByteArray))).bind fun bt208 => (if t201.size + bt208.1.size ≤ 9223372036854775807 then (spec_DrawLex.j0 k (t201 ++ bt208.1) t192 bt208.2.1 bt208.2.2) else (none))) else (spec_DrawLex.j0 k t201 t192 bt202.2.1 bt202.2.2))))) = some r := H
 have A2 := aM_ A20
 clear A20
 replace H := oB_ H
 obtain ⟨⟨t196, t199, t200⟩, A30, H⟩ := H
 replace H : ((spec_JoinTokens.f k t196).bind fun t201 => ((spec_l1Once.f t192 t199 t200 3).bind fun bt202 => (if bt202.1 = true then ((spec_l1Str.f t192 bt202.2.1 bt202.2.2 (([(⟨#[32, 49, 97]⟩ : ByteArray), (⟨#[32, 65]⟩ : ByteArray), (⟨#[255]⟩ : ByteArray), (⟨#[32, 110, 105, 110, 101, 108, 101, 116, 116, 101]⟩ : ByteArray), (⟨#[97, 123, 98, 125]⟩ : ByteArray), (⟨#[9, 13, 10]⟩ : ByteArray), (⟨#[40]⟩ : ByteArray), (⟨#[97, 49, 32, 44, 59]⟩ : ByteArray)] : List ByteArray))).bind fun bt208 => (if t201.size + bt208.1.size ≤ 9223372036854775807 then (spec_DrawLex.j0 k (t201 ++ bt208.1) t192 bt208.2.1 bt208.2.2) else (none))) else (spec_DrawLex.j0 k t201 t192 bt202.2.1 bt202.2.2)))) = some r := H
 have A3 := aM_ A30
 clear A30
 replace H := oB_ H
 obtain ⟨t201, A40, H⟩ := H
 replace H : ((spec_l1Once.f t192 t199 t200 3).bind fun bt202 => (if bt202.1 = true then ((spec_l1Str.f t192 bt202.2.1 bt202.2.2 (([(⟨#[32, 49, 97]⟩ : ByteArray), (⟨#[32, 65]⟩ : ByteArray), (⟨#[255]⟩ : ByteArray), (⟨#[32, 110, 105, 110, 101, 108, 101, 116, 116, 101]⟩ : ByteArray), (⟨#[97, 123, 98, 125]⟩ : ByteArray), (⟨#[9, 13, 10]⟩ : ByteArray), (⟨#[40]⟩ : ByteArray), (⟨#[97, 49, 32, 44, 59]⟩ : ByteArray)] : List ByteArray))).bind fun bt208 => (if t201.size + bt208.1.size ≤ 9223372036854775807 then (spec_DrawLex.j0 k (t201 ++ bt208.1) t192 bt208.2.1 bt208.2.2) else (none))) else (spec_DrawLex.j0 k t201 t192 bt202.2.1 bt202.2.2))) = some r := H
 have A4 := aM_ A40
 clear A40
 replace H := oB_ H
 obtain ⟨⟨t202, t203, t204⟩, A50, H⟩ := H
 replace H : (if t202 = true then ((spec_l1Str.f t192 t203 t204 (([(⟨#[32, 49, 97]⟩ : ByteArray), (⟨#[32, 65]⟩ : ByteArray), (⟨#[255]⟩ : ByteArray), (⟨#[32, 110, 105, 110, 101, 108, 101, 116, 116, 101]⟩ : ByteArray), (⟨#[97, 123, 98, 125]⟩ : ByteArray), (⟨#[9, 13, 10]⟩ : ByteArray), (⟨#[40]⟩ : ByteArray), (⟨#[97, 49, 32, 44, 59]⟩ : ByteArray)] : List ByteArray))).bind fun bt208 => (if t201.size + bt208.1.size ≤ 9223372036854775807 then (spec_DrawLex.j0 k (t201 ++ bt208.1) t192 bt208.2.1 bt208.2.2) else (none))) else (spec_DrawLex.j0 k t201 t192 t203 t204)) = some r := H
 have A5 := aM_ A50
 clear A50
 have HC6 := aM_ H
 clear H
 go_enter Try.func56, Try.ntmps56
 go_upto_if 12 with (first | ((with_reducible refine gate_callee (f := 83) rfl ?_); refine goesL_ (some 7) rfl rfl Try.func83 (by kernel_rfl) rfl #[.slice A0 l0.length c0] rfl (by (try simp only [mA_, mC_, mN_]); first | done | rfl | (simp only [lD_, lT_]; rfl)) ?_; (with_reducible refine (spec_l1New.calls k _ _ l0 t192 t193 t194 w _ ?side1 ?side2 ?side3 A2.out).mono ?_); (case side1 => repeat (first | (with_reducible first | exact HB.out | apply bA_ | apply bN_ | apply bD_) | exact HB.out)); (case side2 => exact HR0.out); (case side3 => exact HC0.out); rintro e w7 ⟨g195, rfl, hi, hb, hb2⟩; refine ⟨_, rfl, ?_⟩; have n0_ := aM_ (hb); have n1_ := aM_ (hi); clear HB; have HB := n0_; have HI195 := n1_; clear n0_ n1_; (try clear hb); (try clear hb2); (try clear hk); (try clear hi)) | ((with_reducible refine gate_callee (f := 119) rfl ?_); refine goesL_ (some 9) rfl rfl Try.func119 (by kernel_rfl) rfl #[.pointer (some ⟨g195, 0, none⟩), .int .i64 8] rfl (by (try simp only [mA_, mC_, mN_]); first | done | rfl | (simp only [lD_, lT_]; rfl)) ?_; (with_reducible refine (spec_l8Tokens.calls k g195 t192 t193 t194 8 t196 t199 t200 w _ ?side1 ?side2 A3.out).mono ?_); (case side1 => repeat (first | (with_reducible first | exact HI195.out | apply J155.alloc | apply J155.drewN | apply J155.drew | apply J155.set_1 | apply J155.set_2) | exact HI195.out)); (case side2 => repeat (first | (with_reducible first | exact HB.out | apply bA_ | apply bN_ | apply bD_ | refine bE_ ?_ (J155.ge HI195.out)) | exact HB.out)); rintro e w8 ⟨v197, rfl, ho0, hi, hb, hk⟩; refine ⟨_, rfl, ?_⟩; have n0_ := aM_ (Kd.R_lower ho0 (bS_ (by repeat (first | (with_reducible first | exact HB.out | apply bA_ | apply bN_ | apply bD_ | refine bE_ ?_ (J155.ge HI195.out)) | exact HB.out)))); have n1_ := aM_ (hb); have n2_ := aM_ (hi); clear HB; clear HI195; have HO198 := n0_; have HB := n1_; have HI195 := n2_; clear n0_ n1_ n2_; (try clear hb); (try clear hb2); (try clear hk); (try clear hi); (try clear ho0); obtain ⟨Ao9, co9, eo9⟩ := Kd.R_slice HO198.out; subst eo9) | ((with_reducible refine gate_callee (f := 123) rfl ?_); refine goesL_ (some 10) rfl rfl Try.func123 (by kernel_rfl) rfl #[.slice Ao9 t196.length co9] rfl (by (try simp only [mA_, mC_, mN_]); first | done | rfl | (simp only [lD_, lT_]; rfl)) ?_; (with_reducible refine (spec_JoinTokens.calls k _ _ t196 t201 _ ?side1 ?side2 A4.out).mono ?_); (case side1 => repeat (first | exact (Kd.R_reads' HO198.out).2.2 | (with_reducible refine cA_ ?_ _) | (with_reducible refine cN_ ?_ _) | (with_reducible refine cD_ ?_))); (case side2 => exact (Kd.R_reads' HO198.out).2.1); rintro e w' ⟨rfl, ⟨nd, rfl⟩⟩; refine ⟨_, rfl, ?_⟩) | ((with_reducible refine gate_callee (f := 107) rfl ?_); refine goesL_ (some 12) rfl rfl Try.func107 (by kernel_rfl) rfl #[.pointer (some ⟨g195, 0, none⟩), .int .i64 3] rfl (by (try simp only [mA_, mC_, mN_]); first | done | rfl | (simp only [lD_, lT_]; rfl)) ?_; (with_reducible refine (spec_l1Once.calls g195 t192 t199 t200 3 t202 t203 t204 w _ ?side1 ?side2 A5.out).mono ?_); (case side1 => repeat (first | (with_reducible first | exact HI195.out | apply J155.alloc | apply J155.drewN | apply J155.drew | apply J155.set_1 | apply J155.set_2) | exact HI195.out)); (case side2 => repeat (first | (with_reducible first | exact HB.out | apply bA_ | apply bN_ | apply bD_ | refine bE_ ?_ (J155.ge HI195.out)) | exact HB.out)); rintro e w10 ⟨rfl, hi, hb, hk⟩; refine ⟨_, rfl, ?_⟩; have n0_ := aM_ (Kd.R_mono (Kd.R_keep (J155.apart (show J155 w _ g195 t192 t199 t200 from by repeat (first | (with_reducible first | exact HI195.out | apply J155.alloc | apply J155.drewN | apply J155.drew | apply J155.set_1 | apply J155.set_2) | exact HI195.out)) (by (with_reducible repeat (first | apply rA_ | apply rN_ | apply rD_)); exact HO198.out) (by decide)) hk (fun _ h => h.2)) (fun _ h => h.1)); have n1_ := aM_ (hb); have n2_ := aM_ (hi); clear HO198; clear HB; clear HI195; have HO198 := n0_; have HB := n1_; have HI195 := n2_; clear n0_ n1_ n2_; (try clear hb); (try clear hb2); (try clear hk); (try clear hi)))
 (try simp only [Act.put, sI_, sZ_, sS_])
 go_cut [4] (fun v4 wc => ∃ (kq : Nat) (x4_5 : ByteArray) (x196001_5 : Int) (x196002_5 : Int), v4 = .string x4_5 ∧ Aside0 (spec_DrawLex.j0 kq x4_5 t192 x196001_5 x196002_5 = some r) ∧ Aside0 (kq ≤ k) ∧ Aside0 (J155 w wc g195 t192 x196001_5 x196002_5) ∧ Aside0 (Below w.heap.size w wc))
 case first =>
  have H := HC6.out
  clear HC6
  by_cases c11 : t202 = true
  ·subst c11
   have H1 : ((spec_l1Str.f t192 t203 t204 (([(⟨#[32, 49, 97]⟩ : ByteArray), (⟨#[32, 65]⟩ : ByteArray), (⟨#[255]⟩ : ByteArray), (⟨#[32, 110, 105, 110, 101, 108, 101, 116, 116, 101]⟩ : ByteArray), (⟨#[97, 123, 98, 125]⟩ : ByteArray), (⟨#[9, 13, 10]⟩ : ByteArray), (⟨#[40]⟩ : ByteArray), (⟨#[97, 49, 32, 44, 59]⟩ : ByteArray)] : List ByteArray))).bind fun bt208 => (if t201.size + bt208.1.size ≤ 9223372036854775807 then (spec_DrawLex.j0 k (t201 ++ bt208.1) t192 bt208.2.1 bt208.2.2) else (none))) = some r := by rw [if_pos rfl] at H; exact H
   clear H
   have H := H1
   clear H1
   obtain ⟨y205, hy205⟩ : ∃ y_ : List ByteArray, y_ = (([(⟨#[32, 49, 97]⟩ : ByteArray), (⟨#[32, 65]⟩ : ByteArray), (⟨#[255]⟩ : ByteArray), (⟨#[32, 110, 105, 110, 101, 108, 101, 116, 116, 101]⟩ : ByteArray), (⟨#[97, 123, 98, 125]⟩ : ByteArray), (⟨#[9, 13, 10]⟩ : ByteArray), (⟨#[40]⟩ : ByteArray), (⟨#[97, 49, 32, 44, 59]⟩ : ByteArray)] : List ByteArray)) := ⟨_, rfl⟩
   replace H : ((spec_l1Str.f t192 t203 t204 y205).bind fun bt208 => (if t201.size + bt208.1.size ≤ 9223372036854775807 then (spec_DrawLex.j0 k (t201 ++ bt208.1) t192 bt208.2.1 bt208.2.2) else (none))) = some r := by first | (rw [hy205]; with_reducible exact H) | (have H2_ := (Option.bind_some _ _).symm.trans H; rw [hy205]; with_reducible exact H2_) | (have H2_ := (Option.bind_some _ _).symm.trans H; with_reducible exact H2_) | with_reducible exact H | (rw [hy205]; exact H) | exact H
   have Ny205 := aM_ hy205
   clear hy205
   replace H := oB_ H
   obtain ⟨⟨t208, t209, t210⟩, A120, H⟩ := H
   replace H : (if t201.size + t208.size ≤ 9223372036854775807 then (spec_DrawLex.j0 k (t201 ++ t208) t192 t209 t210) else (none)) = some r := H
   have A12 := aM_ A120
   clear A120
   by_cases c13 : t201.size + t208.size ≤ 9223372036854775807
   ·rw [if_pos c13] at H
    have c13b0 := eq_true c13
    have c13b1 : decide (t201.size + t208.size ≤ 9223372036854775807) = true := decide_eq_true c13
    try have c13b2 : (9223372036854775807 < t201.size + t208.size) = False := eq_false (Nat.not_lt.2 c13)
    have H' := aM_ H
    clear H
    go_wp2_with (first | ((with_reducible refine gate_dst (N := 15) rfl ?_); refine Kd.R_lit Kd.string _ 9 ?hg (N := 15) ?hd (xs := ([(⟨#[32, 49, 97]⟩ : ByteArray), (⟨#[32, 65]⟩ : ByteArray), (⟨#[255]⟩ : ByteArray), (⟨#[32, 110, 105, 110, 101, 108, 101, 116, 116, 101]⟩ : ByteArray), (⟨#[97, 123, 98, 125]⟩ : ByteArray), (⟨#[9, 13, 10]⟩ : ByteArray), (⟨#[40]⟩ : ByteArray), (⟨#[97, 49, 32, 44, 59]⟩ : ByteArray)] : List ByteArray)) (inner := [.string (⟨#[32, 49, 97]⟩ : ByteArray), .string (⟨#[32, 65]⟩ : ByteArray), .string (⟨#[255]⟩ : ByteArray), .string (⟨#[32, 110, 105, 110, 101, 108, 101, 116, 116, 101]⟩ : ByteArray), .string (⟨#[97, 123, 98, 125]⟩ : ByteArray), .string (⟨#[9, 13, 10]⟩ : ByteArray), .string (⟨#[40]⟩ : ByteArray), .string (⟨#[97, 49, 32, 44, 59]⟩ : ByteArray)]) (ok := fun _ => True) (okp := fun _ => True) ?hr ?hp (fun _ hk => hk) trivial (Below.refl _ _) (Nat.le_refl _) (by simp) ?_; (case hd => rfl); (case hg => rfl); (case hr => first | (go_simp; done) | (go_simp; rfl)); (case hp => exact (Reps.one (show Kd.M Kd.string _ _ _ (⟨#[32, 49, 97]⟩ : ByteArray) [.string (⟨#[32, 49, 97]⟩ : ByteArray)] from rfl) (Reps.one (show Kd.M Kd.string _ _ _ (⟨#[32, 65]⟩ : ByteArray) [.string (⟨#[32, 65]⟩ : ByteArray)] from rfl) (Reps.one (show Kd.M Kd.string _ _ _ (⟨#[255]⟩ : ByteArray) [.string (⟨#[255]⟩ : ByteArray)] from rfl) (Reps.one (show Kd.M Kd.string _ _ _ (⟨#[32, 110, 105, 110, 101, 108, 101, 116, 116, 101]⟩ : ByteArray) [.string (⟨#[32, 110, 105, 110, 101, 108, 101, 116, 116, 101]⟩ : ByteArray)] from rfl) (Reps.one (show Kd.M Kd.string _ _ _ (⟨#[97, 123, 98, 125]⟩ : ByteArray) [.string (⟨#[97, 123, 98, 125]⟩ : ByteArray)] from rfl) (Reps.one (show Kd.M Kd.string _ _ _ (⟨#[9, 13, 10]⟩ : ByteArray) [.string (⟨#[9, 13, 10]⟩ : ByteArray)] from rfl) (Reps.one (show Kd.M Kd.string _ _ _ (⟨#[40]⟩ : ByteArray) [.string (⟨#[40]⟩ : ByteArray)] from rfl) (Reps.one (show Kd.M Kd.string _ _ _ (⟨#[97, 49, 32, 44, 59]⟩ : ByteArray) [.string (⟨#[97, 49, 32, 44, 59]⟩ : ByteArray)] from rfl) (Reps.none _ _)))))))))); intro v206 w14 ho15 hb hg_ hnew_; clear hg_ hnew_; (first | rw [← Ny205.out] at ho15 | (simp only [Int.reduceToNat] at ho15; rw [← Ny205.out] at ho15)); have n0_ := aM_ (Kd.R_below (by (with_reducible repeat (first | apply rA_ | apply rN_ | apply rD_)); exact HO198.out) hb); have n1_ := aM_ (Kd.R_lower ho15 (bS_ (by repeat (first | (with_reducible first | exact HB.out | apply bA_ | apply bN_ | apply bD_ | refine bE_ ?_ (J155.ge HI195.out)) | exact HB.out)))); have n2_ := aM_ (J155.below (by repeat (first | (with_reducible first | exact HI195.out | apply J155.alloc | apply J155.drewN | apply J155.drew | apply J155.set_1 | apply J155.set_2) | exact HI195.out)) hb); have n3_ := aM_ (bT_ (by repeat (first | (with_reducible first | exact HB.out | apply bA_ | apply bN_ | apply bD_ | refine bE_ ?_ (J155.ge HI195.out)) | exact HB.out)) hb); clear HO198; clear HI195; clear HB; have HO198 := n0_; have HO207 := n1_; have HI195 := n2_; have HB := n3_; clear n0_ n1_ n2_ n3_; clear hb ho15; obtain ⟨Ao16, co16, eo16⟩ := Kd.R_slice HO207.out; subst eo16) | ((with_reducible refine gate_callee (f := 124) rfl ?_); refine goesL_ (some 16) rfl rfl Try.func124 (by kernel_rfl) rfl #[.pointer (some ⟨g195, 0, none⟩), .slice Ao16 y205.length co16] rfl (by (try simp only [mA_, mC_, mN_]); first | done | rfl | (simp only [lD_, lT_]; rfl)) ?_; (with_reducible refine (spec_l1Str.calls g195 t192 t203 t204 _ _ y205 t208 t209 t210 w _ ?side1 ?side2 ?side3 ?side4 ?side5 A12.out).mono ?_); (case side1 => repeat (first | (with_reducible first | exact HI195.out | apply J155.alloc | apply J155.drewN | apply J155.drew | apply J155.set_1 | apply J155.set_2) | exact HI195.out)); (case side2 => repeat (first | (with_reducible first | exact HB.out | apply bA_ | apply bN_ | apply bD_ | refine bE_ ?_ (J155.ge HI195.out)) | exact HB.out)); (case side3 => repeat (first | exact (Kd.R_reads' HO207.out).2.2 | (with_reducible refine cA_ ?_ _) | (with_reducible refine cN_ ?_ _) | (with_reducible refine cD_ ?_))); (case side4 => exact (Kd.R_reads' HO207.out).2.1); (case side5 => exact far_slice (J155.own_ne HI195.out HO207.out (by decide))); rintro e w17 ⟨rfl, hi, hb, hk⟩; refine ⟨_, rfl, ?_⟩; have n0_ := aM_ (Kd.R_mono (Kd.R_keep (J155.apart (show J155 w _ g195 t192 t203 t204 from by repeat (first | (with_reducible first | exact HI195.out | apply J155.alloc | apply J155.drewN | apply J155.drew | apply J155.set_1 | apply J155.set_2) | exact HI195.out)) (by (with_reducible repeat (first | apply rA_ | apply rN_ | apply rD_)); exact HO198.out) (by decide)) hk (fun _ h => h.2)) (fun _ h => h.1)); have n1_ := aM_ (Kd.R_mono (Kd.R_keep (J155.apart (show J155 w _ g195 t192 t203 t204 from by repeat (first | (with_reducible first | exact HI195.out | apply J155.alloc | apply J155.drewN | apply J155.drew | apply J155.set_1 | apply J155.set_2) | exact HI195.out)) (by (with_reducible repeat (first | apply rA_ | apply rN_ | apply rD_)); exact HO207.out) (by decide)) hk (fun _ h => h.2)) (fun _ h => h.1)); have n2_ := aM_ (hb); have n3_ := aM_ (hi); clear HO198; clear HO207; clear HB; clear HI195; have HO198 := n0_; have HO207 := n1_; have HB := n2_; have HI195 := n3_; clear n0_ n1_ n2_ n3_; (try clear hb); (try clear hb2); (try clear hk); (try clear hi)))
    (first | go_meet | (refine Met.intro ?_; go_step; (repeat apply Exists.intro); refine ⟨?rel, ?eq⟩; (case eq => (try simp only [c6b0]); (try simp only [c6b0]); rfl)))
    case rel => exact ⟨_, (t201 ++ t208), (t209), (t210), (by first | rfl | (simp; done) | (simp [*]; done)), H', ⟨by first | omega | exact Nat.le_refl _⟩, ⟨by repeat (first | (with_reducible first | exact HI195.out | apply J155.alloc | apply J155.drewN | apply J155.drew | apply J155.set_1 | apply J155.set_2) | exact HI195.out)⟩, ⟨by repeat (first | (with_reducible first | exact HB.out | apply bA_ | apply bN_ | apply bD_ | refine bE_ ?_ (J155.ge HI195.out)) | exact HB.out)⟩⟩
   ·rw [if_neg c13] at H
    exact absurd H (by simp)
  ·replace c11 := Bool.eq_false_iff.mpr c11
   subst c11
   have H1 : (spec_DrawLex.j0 k t201 t192 t203 t204) = some r := by rw [if_neg (show ¬ (false = true) by decide)] at H; exact H
   clear H
   have H := H1
   clear H1
   have H' := aM_ H
   clear H
   go_wp2
   (first | go_meet | (refine Met.intro ?_; go_step; (repeat apply Exists.intro); refine ⟨?rel, ?eq⟩; (case eq => (try simp only [c6b0]); (try simp only [c6b0]); rfl)))
   case rel => exact ⟨_, (t201), (t203), (t204), (by first | rfl | (simp; done) | (simp [*]; done)), H', ⟨by first | omega | exact Nat.le_refl _⟩, ⟨by repeat (first | (with_reducible first | exact HI195.out | apply J155.alloc | apply J155.drewN | apply J155.drew | apply J155.set_1 | apply J155.set_2) | exact HI195.out)⟩, ⟨by repeat (first | (with_reducible first | exact HB.out | apply bA_ | apply bN_ | apply bD_ | refine bE_ ?_ (J155.ge HI195.out)) | exact HB.out)⟩⟩
 case rest =>
  clear HC6
  try clear c1
  try clear p2
  try clear c5
  try clear c6
  try clear c6b0
  try clear c8
  try clear c10
  try clear c11
  try clear c12
  try clear c13
  try clear c13b0
  try clear c13b1
  try clear c13b2
  obtain ⟨kq, x4_5, x196001_5, x196002_5, rfl, HA, HJ5, HI195, HB⟩ := hcut
  cases kq with
  | zero => exact absurd HA.out (by simp [spec_DrawLex.j0])
  | succ kj5 =>
   have H := HA.out
   clear HA
   simp only [spec_DrawLex.j0] at H
   replace H := oB_ H
   obtain ⟨⟨t211, t212, t213⟩, A180, H⟩ := H
   replace H : (if t211 = true then (spec_DrawLex.l0 kj5 (⟨#[]⟩ : ByteArray) 0 t192 t212 t213) else (some x4_5)) = some r := H
   have A18 := aM_ A180
   clear A180
   by_cases c19 : t211 = true
   ·subst c19
    have H1 : (spec_DrawLex.l0 kj5 (⟨#[]⟩ : ByteArray) 0 t192 t212 t213) = some r := by rw [if_pos rfl] at H; exact H
    clear H
    have H := H1
    clear H1
    have H' := aM_ H
    clear H
    go_wp2_with (first | ((with_reducible refine gate_callee (f := 107) rfl ?_); refine goesL_ (some 19) rfl rfl Try.func107 (by kernel_rfl) rfl #[.pointer (some ⟨g195, 0, none⟩), .int .i64 200] rfl (by (try simp only [mA_, mC_, mN_]); first | done | rfl | (simp only [lD_, lT_]; rfl)) ?_; (with_reducible refine (spec_l1Once.calls g195 t192 x196001_5 x196002_5 200 true t212 t213 w _ ?side1 ?side2 A18.out).mono ?_); (case side1 => repeat (first | (with_reducible first | exact HI195.out | apply J155.alloc | apply J155.drewN | apply J155.drew | apply J155.set_1 | apply J155.set_2) | exact HI195.out)); (case side2 => repeat (first | (with_reducible first | exact HB.out | apply bA_ | apply bN_ | apply bD_ | refine bE_ ?_ (J155.ge HI195.out)) | exact HB.out)); rintro e w20 ⟨rfl, hi, hb, hk⟩; refine ⟨_, rfl, ?_⟩; have n0_ := aM_ (hb); have n1_ := aM_ (hi); clear HB; clear HI195; have HB := n0_; have HI195 := n1_; clear n0_ n1_; (try clear hb); (try clear hb2); (try clear hk); (try clear hi)))
    (try simp only [Act.put, sI_, sS_, sZ_])
    go_loopg [4, 5] kj5 (fun kq v4 v5 w' => ∃ (x4_2 : ByteArray) (x5_2 : Int) (x196001_2 : Int) (x196002_2 : Int), v4 = .string x4_2 ∧ v5 = .int .i64 x5_2 ∧ Aside0 (spec_DrawLex.l0 kq x4_2 x5_2 t192 x196001_2 x196002_2 = some r) ∧ Aside0 (kq ≤ kj5) ∧ Aside0 (J155 w w' g195 t192 x196001_2 x196002_2) ∧ Aside0 (Below w.heap.size w w'))
    case atStart => exact ⟨((⟨#[]⟩ : ByteArray)), (0), (t212), (t213), (by first | rfl | (simp; done) | (simp [*]; done)), (by first | rfl | (simp; done) | (simp [*]; done)), H', ⟨Nat.le_refl _⟩, ⟨by repeat (first | (with_reducible first | exact HI195.out | apply J155.alloc | apply J155.drewN | apply J155.drew | apply J155.set_1 | apply J155.set_2) | exact HI195.out)⟩, ⟨by repeat (first | (with_reducible first | exact HB.out | apply bA_ | apply bN_ | apply bD_ | refine bE_ ?_ (J155.ge HI195.out)) | exact HB.out)⟩⟩
    case round =>
     clear H'
     try clear c1
     try clear p2
     try clear c5
     try clear c6
     try clear c6b0
     try clear c8
     try clear c10
     try clear c11
     try clear c12
     try clear c13
     try clear c13b0
     try clear c13b1
     try clear c13b2
     try clear c19
     try clear p2
     obtain ⟨x4_2, x5_2, x196001_2, x196002_2, rfl, rfl, HA, HK2, HI195, HB⟩ := hrel
     cases gk with
     | zero => exact absurd HA.out (by simp [spec_DrawLex.l0])
     | succ k2 =>
      have H := HA.out
      clear HA
      simp only [spec_DrawLex.l0] at H
      replace H := oB_ H
      obtain ⟨⟨t214, t215, t216⟩, A210, H⟩ := H
      replace H : (if x5_2 < (wrap64 (500 + t214)) then (if x4_2.size + 1 ≤ 9223372036854775807 then (spec_DrawLex.l0 k2 (x4_2 ++ (⟨#[59]⟩ : ByteArray)) (wrap64 (x5_2 + 1)) t192 t215 t216) else (none)) else (some x4_2)) = some r := H
      have A21 := aM_ A210
      clear A210
      by_cases c22 : x5_2 < (wrap64 (500 + t214))
      ·rw [if_pos c22] at H
       have c22b0 : decide (x5_2 < (wrap64 (500 + t214))) = true := decide_eq_true c22
       clear c22
       by_cases c23 : x4_2.size + 1 ≤ 9223372036854775807
       ·rw [if_pos c23] at H
        have c23b0 := eq_true c23
        have c23b1 : decide (x4_2.size + 1 ≤ 9223372036854775807) = true := decide_eq_true c23
        try have c23b2 : (9223372036854775807 < x4_2.size + 1) = False := eq_false (Nat.not_lt.2 c23)
        have H' := aM_ H
        clear H
        go_wp2_with (first | ((with_reducible refine gate_callee (f := 125) rfl ?_); refine goesL_ (some 22) rfl rfl Try.func125 (by kernel_rfl) rfl #[.pointer (some ⟨g195, 0, none⟩), .int .i64 2] rfl (by (try simp only [mA_, mC_, mN_]); first | done | rfl | (simp only [lD_, lT_]; rfl)) ?_; (with_reducible refine (spec_l1Below.calls g195 t192 x196001_2 x196002_2 2 t214 t215 t216 w _ ?side1 ?side2 A21.out).mono ?_); (case side1 => repeat (first | (with_reducible first | exact HI195.out | apply J155.alloc | apply J155.drewN | apply J155.drew | apply J155.set_1 | apply J155.set_2) | exact HI195.out)); (case side2 => repeat (first | (with_reducible first | exact HB.out | apply bA_ | apply bN_ | apply bD_ | refine bE_ ?_ (J155.ge HI195.out)) | exact HB.out)); rintro e w24 ⟨rfl, hi, hb, hk⟩; refine ⟨_, rfl, ?_⟩; have n0_ := aM_ (hb); have n1_ := aM_ (hi); clear HB; clear HI195; have HB := n0_; have HI195 := n1_; clear n0_ n1_; (try clear hb); (try clear hb2); (try clear hk); (try clear hi)))
        go_roundg k2
        case measure => have := HJ5.out; have := HK2.out; omega
        case rel => exact ⟨(x4_2 ++ (⟨#[59]⟩ : ByteArray)), (wrap64 (x5_2 + 1)), (t215), (t216), (by first | rfl | (simp; done) | (simp [*]; done)), (by first | rfl | (simp; done) | (simp [*]; done)), H', ⟨by have := HJ5.out; have := HK2.out; omega⟩, ⟨by repeat (first | (with_reducible first | exact HI195.out | apply J155.alloc | apply J155.drewN | apply J155.drew | apply J155.set_1 | apply J155.set_2) | exact HI195.out)⟩, ⟨by repeat (first | (with_reducible first | exact HB.out | apply bA_ | apply bN_ | apply bD_ | refine bE_ ?_ (J155.ge HI195.out)) | exact HB.out)⟩⟩
       ·rw [if_neg c23] at H
        exact absurd H (by simp)
      ·rw [if_neg c22] at H
       have c22b0 : decide (x5_2 < (wrap64 (500 + t214))) = false := decide_eq_false c22
       clear c22
       obtain rfl := Option.some.inj H
       go_wp2_with (first | ((with_reducible refine gate_callee (f := 125) rfl ?_); refine goesL_ (some 22) rfl rfl Try.func125 (by kernel_rfl) rfl #[.pointer (some ⟨g195, 0, none⟩), .int .i64 2] rfl (by (try simp only [mA_, mC_, mN_]); first | done | rfl | (simp only [lD_, lT_]; rfl)) ?_; (with_reducible refine (spec_l1Below.calls g195 t192 x196001_2 x196002_2 2 t214 t215 t216 w _ ?side1 ?side2 A21.out).mono ?_); (case side1 => repeat (first | (with_reducible first | exact HI195.out | apply J155.alloc | apply J155.drewN | apply J155.drew | apply J155.set_1 | apply J155.set_2) | exact HI195.out)); (case side2 => repeat (first | (with_reducible first | exact HB.out | apply bA_ | apply bN_ | apply bD_ | refine bE_ ?_ (J155.ge HI195.out)) | exact HB.out)); rintro e w25 ⟨rfl, hi, hb, hk⟩; refine ⟨_, rfl, ?_⟩; have n0_ := aM_ (hb); have n1_ := aM_ (hi); clear HB; clear HI195; have HB := n0_; have HI195 := n1_; clear n0_ n1_; (try clear hb); (try clear hb2); (try clear hk); (try clear hi)))
       go_ret
       exact ⟨by first | rfl | (simp [errW_none, errW_some] <;> rfl) | (simp [*, errW_none, errW_some] <;> rfl), by repeat (first | (with_reducible first | exact HB.out | apply bA_ | apply bN_ | apply bD_ | refine bE_ ?_ (J155.ge HI195.out)) | exact HB.out)⟩
   ·replace c19 := Bool.eq_false_iff.mpr c19
    subst c19
    have H1 : (some x4_5) = some r := by rw [if_neg (show ¬ (false = true) by decide)] at H; exact H
    clear H
    have H := H1
    clear H1
    obtain rfl := Option.some.inj H
    go_wp2_with (first | ((with_reducible refine gate_callee (f := 107) rfl ?_); refine goesL_ (some 19) rfl rfl Try.func107 (by kernel_rfl) rfl #[.pointer (some ⟨g195, 0, none⟩), .int .i64 200] rfl (by (try simp only [mA_, mC_, mN_]); first | done | rfl | (simp only [lD_, lT_]; rfl)) ?_; (with_reducible refine (spec_l1Once.calls g195 t192 x196001_5 x196002_5 200 false t212 t213 w _ ?side1 ?side2 A18.out).mono ?_); (case side1 => repeat (first | (with_reducible first | exact HI195.out | apply J155.alloc | apply J155.drewN | apply J155.drew | apply J155.set_1 | apply J155.set_2) | exact HI195.out)); (case side2 => repeat (first | (with_reducible first | exact HB.out | apply bA_ | apply bN_ | apply bD_ | refine bE_ ?_ (J155.ge HI195.out)) | exact HB.out)); rintro e w26 ⟨rfl, hi, hb, hk⟩; refine ⟨_, rfl, ?_⟩; have n0_ := aM_ (hb); have n1_ := aM_ (hi); clear HB; clear HI195; have HB := n0_; have HI195 := n1_; clear n0_ n1_; (try clear hb); (try clear hb2); (try clear hk); (try clear hi)))
    go_ret
    exact ⟨by first | rfl | (simp [errW_none, errW_some] <;> rfl) | (simp [*, errW_none, errW_some] <;> rfl), by repeat (first | (with_reducible first | exact HB.out | apply bA_ | apply bN_ | apply bD_ | refine bE_ ?_ (J155.ge HI195.out)) | exact HB.out)⟩

/-! ### spec_l1In: function 89 -/
def spec_l1In.f (a0 : Int) (a1 : Int) (a2 : Int) : Option (Bool) := if a0 ≥ a1 then (some (decide (a0 ≤ a2))) else (some false)
set_option maxHeartbeats 8000000 in
set_option maxRecDepth 100000 in
theorem spec_l1In.calls (a0 : Int) (a1 : Int) (a2 : Int) (r : Bool) (w : World) (h : spec_l1In.f a0 a1 a2 = some r) :
  Calls Try.prog 89 #[.int .i64 a0, .int .i64 a1, .int .i64 a2] w fun e w' => e = .returned (.bool r) ∧ Drawn0 w w' := by
 have H : (if a0 ≥ a1 then (some (decide (a0 ≤ a2))) else (some false)) = some r := h
 clear h
 by_cases c4 : a0 ≥ a1
 ·rw [if_pos c4] at H
  have c4b0 : decide (a1 ≤ a0) = true := decide_eq_true c4
  clear c4
  obtain rfl := Option.some.inj H
  go_enter Try.func89, Try.ntmps89
  go_wp2
  go_ret
  exact ⟨by first | rfl | (simp; done) | (simp [*]; done), by repeat (first | exact Drawn0.refl _ | apply Drawn0.step)⟩
 ·rw [if_neg c4] at H
  have c4b0 : decide (a1 ≤ a0) = false := decide_eq_false c4
  clear c4
  obtain rfl := Option.some.inj H
  go_enter Try.func89, Try.ntmps89
  go_wp2
  go_ret
  exact ⟨by first | rfl | (simp; done) | (simp [*]; done), by repeat (first | exact Drawn0.refl _ | apply Drawn0.step)⟩

/-! ### spec_l8Small: function 126 -/
def spec_l8Small.f (a0 : Int) : Option (Bool) := (spec_l1In.f (wrap64 (a0)) 97 122).bind fun t217 => (some t217)
set_option maxHeartbeats 8000000 in
set_option maxRecDepth 100000 in
theorem spec_l8Small.calls (a0 : Int) (r : Bool) (w : World) (h : spec_l8Small.f a0 = some r) :
  Calls Try.prog 126 #[.int .u8 a0] w fun e w' => e = .returned (.bool r) ∧ Drawn0 w w' := by
 have H : ((spec_l1In.f (wrap64 (a0)) 97 122).bind fun t217 => (some t217)) = some r := h
 clear h
 replace H := oB_ H
 obtain ⟨t217, A20, H⟩ := H
 replace H : (some t217) = some r := H
 have A2 := aM_ A20
 clear A20
 obtain rfl := Option.some.inj H
 go_enter Try.func126, Try.ntmps126
 go_wp2_with (first | ((with_reducible refine gate_callee (f := 89) rfl ?_); refine goesL_ (some 5) rfl rfl Try.func89 (by kernel_rfl) rfl #[.int .i64 (wrap64 (a0)), .int .i64 97, .int .i64 122] rfl (by (try simp only [mA_, mC_, mN_]); first | done | rfl | (simp only [lD_, lT_]; rfl)) ?_; (with_reducible refine (spec_l1In.calls (wrap64 (a0)) 97 122 t217 _ A2.out).mono ?_); rintro e w' ⟨rfl, ⟨nd, rfl⟩⟩; refine ⟨_, rfl, ?_⟩))
 go_ret
 exact ⟨by first | rfl | (simp; done) | (simp [*]; done), by repeat (first | exact Drawn0.refl _ | apply Drawn0.step)⟩

/-! ### spec_l2Digit: function 127 -/
def spec_l2Digit.f (a0 : Int) : Option (Bool) := (spec_l1In.f (wrap64 (a0)) 48 57).bind fun t218 => (some t218)
set_option maxHeartbeats 8000000 in
set_option maxRecDepth 100000 in
theorem spec_l2Digit.calls (a0 : Int) (r : Bool) (w : World) (h : spec_l2Digit.f a0 = some r) :
  Calls Try.prog 127 #[.int .u8 a0] w fun e w' => e = .returned (.bool r) ∧ Drawn0 w w' := by
 have H : ((spec_l1In.f (wrap64 (a0)) 48 57).bind fun t218 => (some t218)) = some r := h
 clear h
 replace H := oB_ H
 obtain ⟨t218, A20, H⟩ := H
 replace H : (some t218) = some r := H
 have A2 := aM_ A20
 clear A20
 obtain rfl := Option.some.inj H
 go_enter Try.func127, Try.ntmps127
 go_wp2_with (first | ((with_reducible refine gate_callee (f := 89) rfl ?_); refine goesL_ (some 5) rfl rfl Try.func89 (by kernel_rfl) rfl #[.int .i64 (wrap64 (a0)), .int .i64 48, .int .i64 57] rfl (by (try simp only [mA_, mC_, mN_]); first | done | rfl | (simp only [lD_, lT_]; rfl)) ?_; (with_reducible refine (spec_l1In.calls (wrap64 (a0)) 48 57 t218 _ A2.out).mono ?_); rintro e w' ⟨rfl, ⟨nd, rfl⟩⟩; refine ⟨_, rfl, ?_⟩))
 go_ret
 exact ⟨by first | rfl | (simp; done) | (simp [*]; done), by repeat (first | exact Drawn0.refl _ | apply Drawn0.step)⟩

/-! ### spec_l8Name: function 131 -/
def spec_l8Name.l0 : Nat → ByteArray → Int → Option (Bool)
 | 0, _, _ => none
 | k + 1, x0, x3 => if x3 < (x0.size : Int) then (if 0 ≤ x3 then ((spec_l8Small.f (bt x0 x3)).bind fun t220 => (if t220 = true then (spec_l8Name.l0 k x0 (wrap64 (x3 + 1))) else (if x3 = 0 then (some false) else ((spec_l2Digit.f (bt x0 x3)).bind fun t221 => (if t221 = true then (spec_l8Name.l0 k x0 (wrap64 (x3 + 1))) else (some false)))))) else (none)) else ((spec_l1In.f (x0.size : Int) 1 8).bind fun t219 => (some t219))
def spec_l8Name.f (k : Nat) (a0 : ByteArray) : Option (Bool) := spec_l8Name.l0 k a0 0
theorem spec_l8Name.mono_l : ∀ k, (∀ y0 y1, LeO (spec_l8Name.l0 k y0 y1) (spec_l8Name.l0 (k + 1) y0 y1))
 | 0 => fun _ _ r h => by simp [spec_l8Name.l0] at h
 | k + 1 => by
  have ih0 := spec_l8Name.mono_l k
  ·intro y0 y1
   unfold spec_l8Name.l0
   repeat' first
   | (with_reducible exact ih0 _ _)
   | (with_reducible exact LeO.refl _)
   | (with_reducible exact LeO.none _)
   | (with_reducible refine LeO.ite ?_ ?_)
   | (with_reducible refine LeO.bind ?_ (fun _ => ?_))
   | exact ih0 _ _
   | exact LeO.none _
   | refine LeO.ite ?_ ?_
   | refine LeO.bind ?_ (fun _ => ?_)
theorem spec_l8Name.mono : ∀ a0 k, LeO (spec_l8Name.f k a0) (spec_l8Name.f (k + 1) a0) := by
 intro a0 k
 have ih0 := spec_l8Name.mono_l k
 unfold spec_l8Name.f
 repeat' first
   | (with_reducible exact ih0 _ _)
   | (with_reducible exact LeO.refl _)
   | (with_reducible exact LeO.none _)
   | (with_reducible refine LeO.ite ?_ ?_)
   | (with_reducible refine LeO.bind ?_ (fun _ => ?_))
   | exact ih0 _ _
   | exact LeO.none _
   | refine LeO.ite ?_ ?_
   | refine LeO.bind ?_ (fun _ => ?_)
set_option maxHeartbeats 8000000 in
set_option maxRecDepth 100000 in
theorem spec_l8Name.calls (k : Nat) (a0 : ByteArray) (r : Bool) (w : World) (h : spec_l8Name.f k a0 = some r) :
  Calls Try.prog 131 #[.string a0] w fun e w' => e = .returned (.bool r) ∧ Drawn0 w w' := by
 have H : (spec_l8Name.l0 k a0 0) = some r := h
 clear h
 have H' := aM_ H
 clear H
 go_enter Try.func131, Try.ntmps131
 go_wp2
 (try simp only [Act.put, sI_, sS_, sZ_])
 go_loopg [3] k (fun kq v3 w' => ∃ (x3_1 : Int), v3 = .int .i64 x3_1 ∧ Aside0 (spec_l8Name.l0 kq a0 x3_1 = some r) ∧ Aside0 (kq ≤ k) ∧ Drawn0 w w')
 case atStart => exact ⟨(0), (by first | rfl | (simp; done) | (simp [*]; done)), H', ⟨Nat.le_refl _⟩, by repeat (first | exact Drawn0.refl _ | apply Drawn0.step)⟩
 case round =>
  clear H'
  try clear c1
  obtain ⟨x3_1, rfl, HA, HK1, ⟨m1, rfl⟩⟩ := hrel
  cases gk with
  | zero => exact absurd HA.out (by simp [spec_l8Name.l0])
  | succ k1 =>
   have H := HA.out
   clear HA
   simp only [spec_l8Name.l0] at H
   by_cases c2 : x3_1 < (a0.size : Int)
   ·rw [if_pos c2] at H
    have c2b0 : decide (x3_1 < (a0.size : Int)) = true := decide_eq_true c2
    clear c2
    by_cases c3 : 0 ≤ x3_1
    ·rw [if_pos c3] at H
     have c3b0 : decide (0 ≤ x3_1) = true := decide_eq_true c3
     clear c3
     replace H := oB_ H
     obtain ⟨t220, A50, H⟩ := H
     replace H : (if t220 = true then (spec_l8Name.l0 k1 a0 (wrap64 (x3_1 + 1))) else (if x3_1 = 0 then (some false) else ((spec_l2Digit.f (bt a0 x3_1)).bind fun t221 => (if t221 = true then (spec_l8Name.l0 k1 a0 (wrap64 (x3_1 + 1))) else (some false))))) = some r := H
     have A5 := aM_ A50
     clear A50
     by_cases c6 : t220 = true
     ·subst c6
      have H1 : (spec_l8Name.l0 k1 a0 (wrap64 (x3_1 + 1))) = some r := by rw [if_pos rfl] at H; exact H
      clear H
      have H := H1
      clear H1
      have H' := aM_ H
      clear H
      have p4 : 0 ≤ (x3_1 : Int) := oT_ (by first | (with_reducible assumption) | assumption)
      have q4 : x3_1 < (a0.size : Int) := oT_ (by first | (with_reducible assumption) | assumption)
      have hx4 := bt_at a0 x3_1
      replace p4 := eq_true p4
      replace q4 := eq_true q4
      go_wp2_with (first | ((with_reducible refine gate_callee (f := 126) rfl ?_); refine goesL_ (some 13) rfl rfl Try.func126 (by kernel_rfl) rfl #[.int .u8 (bt a0 x3_1)] rfl (by (try simp only [mA_, mC_, mN_]); first | done | rfl | (simp only [lD_, lT_]; rfl)) ?_; (with_reducible refine (spec_l8Small.calls (bt a0 x3_1) true _ A5.out).mono ?_); rintro e w' ⟨rfl, ⟨nd, rfl⟩⟩; refine ⟨_, rfl, ?_⟩))
      go_roundg k1
      case measure => have := HK1.out; omega
      case rel => exact ⟨(wrap64 (x3_1 + 1)), (by first | rfl | (simp; done) | (simp [*]; done)), H', ⟨by have := HK1.out; omega⟩, by repeat (first | exact Drawn0.refl _ | apply Drawn0.step)⟩
     ·replace c6 := Bool.eq_false_iff.mpr c6
      subst c6
      have H1 : (if x3_1 = 0 then (some false) else ((spec_l2Digit.f (bt a0 x3_1)).bind fun t221 => (if t221 = true then (spec_l8Name.l0 k1 a0 (wrap64 (x3_1 + 1))) else (some false)))) = some r := by rw [if_neg (show ¬ (false = true) by decide)] at H; exact H
      clear H
      have H := H1
      clear H1
      by_cases c7 : x3_1 = 0
      ·rw [if_pos c7] at H
       have c7b0 : (x3_1 == 0) = true := beq_iff_eq.mpr c7
       have c7b1 : (x3_1 != 0) = false := bne_eq_false_iff_eq.mpr c7
       clear c7
       obtain rfl := Option.some.inj H
       have p4 : 0 ≤ (x3_1 : Int) := oT_ (by first | (with_reducible assumption) | assumption)
       have q4 : x3_1 < (a0.size : Int) := oT_ (by first | (with_reducible assumption) | assumption)
       have hx4 := bt_at a0 x3_1
       replace p4 := eq_true p4
       replace q4 := eq_true q4
       go_wp2_with (first | ((with_reducible refine gate_callee (f := 126) rfl ?_); refine goesL_ (some 13) rfl rfl Try.func126 (by kernel_rfl) rfl #[.int .u8 (bt a0 x3_1)] rfl (by (try simp only [mA_, mC_, mN_]); first | done | rfl | (simp only [lD_, lT_]; rfl)) ?_; (with_reducible refine (spec_l8Small.calls (bt a0 x3_1) false _ A5.out).mono ?_); rintro e w' ⟨rfl, ⟨nd, rfl⟩⟩; refine ⟨_, rfl, ?_⟩))
       go_ret
       exact ⟨by first | rfl | (simp; done) | (simp [*]; done), by repeat (first | exact Drawn0.refl _ | apply Drawn0.step)⟩
      ·rw [if_neg c7] at H
       have c7b0 : (x3_1 == 0) = false := beq_eq_false_iff_ne.mpr c7
       have c7b1 : (x3_1 != 0) = true := bne_iff_ne.mpr c7
       replace H := oB_ H
       obtain ⟨t221, A90, H⟩ := H
       replace H : (if t221 = true then (spec_l8Name.l0 k1 a0 (wrap64 (x3_1 + 1))) else (some false)) = some r := H
       have A9 := aM_ A90
       clear A90
       by_cases c10 : t221 = true
       ·subst c10
        have H1 : (spec_l8Name.l0 k1 a0 (wrap64 (x3_1 + 1))) = some r := by rw [if_pos rfl] at H; exact H
        clear H
        have H := H1
        clear H1
        have H' := aM_ H
        clear H
        have p4 : 0 ≤ (x3_1 : Int) := oT_ (by first | (with_reducible assumption) | assumption)
        have q4 : x3_1 < (a0.size : Int) := oT_ (by first | (with_reducible assumption) | assumption)
        have hx4 := bt_at a0 x3_1
        replace p4 := eq_true p4
        replace q4 := eq_true q4
        go_wp2_with (first | ((with_reducible refine gate_callee (f := 126) rfl ?_); refine goesL_ (some 13) rfl rfl Try.func126 (by kernel_rfl) rfl #[.int .u8 (bt a0 x3_1)] rfl (by (try simp only [mA_, mC_, mN_]); first | done | rfl | (simp only [lD_, lT_]; rfl)) ?_; (with_reducible refine (spec_l8Small.calls (bt a0 x3_1) false _ A5.out).mono ?_); rintro e w' ⟨rfl, ⟨nd, rfl⟩⟩; refine ⟨_, rfl, ?_⟩; have p8 : 0 ≤ (x3_1 : Int) := oT_ (by first | (with_reducible assumption) | assumption); have q8 : x3_1 < (a0.size : Int) := oT_ (by first | (with_reducible assumption) | assumption); have hx8 := bt_at a0 x3_1; replace p8 := eq_true p8; replace q8 := eq_true q8) | (go_at_call 127; (with_reducible refine (spec_l2Digit.calls (bt a0 x3_1) true _ A9.out).mono ?_); rintro e w' ⟨rfl, ⟨nd, rfl⟩⟩))
        go_roundg k1
        case measure => have := HK1.out; omega
        case rel => exact ⟨(wrap64 (x3_1 + 1)), (by first | rfl | (simp; done) | (simp [*]; done)), H', ⟨by have := HK1.out; omega⟩, by repeat (first | exact Drawn0.refl _ | apply Drawn0.step)⟩
       ·replace c10 := Bool.eq_false_iff.mpr c10
        subst c10
        have H1 : (some false) = some r := by rw [if_neg (show ¬ (false = true) by decide)] at H; exact H
        clear H
        have H := H1
        clear H1
        obtain rfl := Option.some.inj H
        have p4 : 0 ≤ (x3_1 : Int) := oT_ (by first | (with_reducible assumption) | assumption)
        have q4 : x3_1 < (a0.size : Int) := oT_ (by first | (with_reducible assumption) | assumption)
        have hx4 := bt_at a0 x3_1
        replace p4 := eq_true p4
        replace q4 := eq_true q4
        go_wp2_with (first | ((with_reducible refine gate_callee (f := 126) rfl ?_); refine goesL_ (some 13) rfl rfl Try.func126 (by kernel_rfl) rfl #[.int .u8 (bt a0 x3_1)] rfl (by (try simp only [mA_, mC_, mN_]); first | done | rfl | (simp only [lD_, lT_]; rfl)) ?_; (with_reducible refine (spec_l8Small.calls (bt a0 x3_1) false _ A5.out).mono ?_); rintro e w' ⟨rfl, ⟨nd, rfl⟩⟩; refine ⟨_, rfl, ?_⟩; have p8 : 0 ≤ (x3_1 : Int) := oT_ (by first | (with_reducible assumption) | assumption); have q8 : x3_1 < (a0.size : Int) := oT_ (by first | (with_reducible assumption) | assumption); have hx8 := bt_at a0 x3_1; replace p8 := eq_true p8; replace q8 := eq_true q8) | (go_at_call 127; (with_reducible refine (spec_l2Digit.calls (bt a0 x3_1) false _ A9.out).mono ?_); rintro e w' ⟨rfl, ⟨nd, rfl⟩⟩))
        go_ret
        exact ⟨by first | rfl | (simp; done) | (simp [*]; done), by repeat (first | exact Drawn0.refl _ | apply Drawn0.step)⟩
    ·rw [if_neg c3] at H
     exact absurd H (by simp)
   ·rw [if_neg c2] at H
    have c2b0 : decide (x3_1 < (a0.size : Int)) = false := decide_eq_false c2
    clear c2
    replace H := oB_ H
    obtain ⟨t219, A110, H⟩ := H
    replace H : (some t219) = some r := H
    have A11 := aM_ A110
    clear A110
    obtain rfl := Option.some.inj H
    go_wp2_with (first | ((with_reducible refine gate_callee (f := 89) rfl ?_); refine goesL_ (some 28) rfl rfl Try.func89 (by kernel_rfl) rfl #[.int .i64 (a0.size : Int), .int .i64 1, .int .i64 8] rfl (by (try simp only [mA_, mC_, mN_]); first | done | rfl | (simp only [lD_, lT_]; rfl)) ?_; (with_reducible refine (spec_l1In.calls (a0.size : Int) 1 8 t219 _ A11.out).mono ?_); rintro e w' ⟨rfl, ⟨nd, rfl⟩⟩; refine ⟨_, rfl, ?_⟩))
    go_ret
    exact ⟨by first | rfl | (simp; done) | (simp [*]; done), by repeat (first | exact Drawn0.refl _ | apply Drawn0.step)⟩

/-! ### spec_l8Mark: function 132 -/
def spec_l8Mark.f (a0 : ByteArray) : Option (Bool) := if a0.toList = ([123] : List UInt8) then (some true) else (if a0.toList = ([125] : List UInt8) then (some true) else (if a0.toList = ([44] : List UInt8) then (some true) else (some (a0.toList == ([59] : List UInt8)))))
set_option maxHeartbeats 8000000 in
set_option maxRecDepth 100000 in
theorem spec_l8Mark.calls (a0 : ByteArray) (r : Bool) (w : World) (h : spec_l8Mark.f a0 = some r) :
  Calls Try.prog 132 #[.string a0] w fun e w' => e = .returned (.bool r) ∧ Drawn0 w w' := by
 have H : (if a0.toList = ([123] : List UInt8) then (some true) else (if a0.toList = ([125] : List UInt8) then (some true) else (if a0.toList = ([44] : List UInt8) then (some true) else (some (a0.toList == ([59] : List UInt8)))))) = some r := h
 clear h
 by_cases c2 : a0.toList = ([123] : List UInt8)
 ·rw [if_pos c2] at H
  have c2b0 : (a0.toList == ([123] : List UInt8)) = true := beq_iff_eq.mpr c2
  have c2b1 : (a0.toList != ([123] : List UInt8)) = false := bne_eq_false_iff_eq.mpr c2
  clear c2
  obtain rfl := Option.some.inj H
  go_enter Try.func132, Try.ntmps132
  go_wp2
  go_ret
  exact ⟨by first | rfl | (simp; done) | (simp [*]; done), by repeat (first | exact Drawn0.refl _ | apply Drawn0.step)⟩
 ·rw [if_neg c2] at H
  have c2b0 : (a0.toList == ([123] : List UInt8)) = false := beq_eq_false_iff_ne.mpr c2
  have c2b1 : (a0.toList != ([123] : List UInt8)) = true := bne_iff_ne.mpr c2
  by_cases c3 : a0.toList = ([125] : List UInt8)
  ·rw [if_pos c3] at H
   have c3b0 : (a0.toList == ([125] : List UInt8)) = true := beq_iff_eq.mpr c3
   have c3b1 : (a0.toList != ([125] : List UInt8)) = false := bne_eq_false_iff_eq.mpr c3
   clear c3
   obtain rfl := Option.some.inj H
   go_enter Try.func132, Try.ntmps132
   go_wp2
   go_ret
   exact ⟨by first | rfl | (simp; done) | (simp [*]; done), by repeat (first | exact Drawn0.refl _ | apply Drawn0.step)⟩
  ·rw [if_neg c3] at H
   have c3b0 : (a0.toList == ([125] : List UInt8)) = false := beq_eq_false_iff_ne.mpr c3
   have c3b1 : (a0.toList != ([125] : List UInt8)) = true := bne_iff_ne.mpr c3
   by_cases c4 : a0.toList = ([44] : List UInt8)
   ·rw [if_pos c4] at H
    have c4b0 : (a0.toList == ([44] : List UInt8)) = true := beq_iff_eq.mpr c4
    have c4b1 : (a0.toList != ([44] : List UInt8)) = false := bne_eq_false_iff_eq.mpr c4
    clear c4
    obtain rfl := Option.some.inj H
    go_enter Try.func132, Try.ntmps132
    go_wp2
    go_ret
    exact ⟨by first | rfl | (simp; done) | (simp [*]; done), by repeat (first | exact Drawn0.refl _ | apply Drawn0.step)⟩
   ·rw [if_neg c4] at H
    have c4b0 : (a0.toList == ([44] : List UInt8)) = false := beq_eq_false_iff_ne.mpr c4
    have c4b1 : (a0.toList != ([44] : List UInt8)) = true := bne_iff_ne.mpr c4
    obtain rfl := Option.some.inj H
    go_enter Try.func132, Try.ntmps132
    go_wp2
    go_ret
    exact ⟨by first | rfl | (simp; done) | (simp [*]; done), by repeat (first | exact Drawn0.refl _ | apply Drawn0.step)⟩

/-! ### spec_TokenOk: function 60 -/
def spec_TokenOk.f (k : Nat) (a0_0 : Int) (a0_1 : ByteArray) : Option (Bool) := if a0_0 = 1 then ((spec_l8Name.f k a0_1).bind fun t223 => (some t223)) else (if a0_0 = 2 then ((spec_l8Mark.f a0_1).bind fun t224 => (some t224)) else (some false))
theorem spec_TokenOk.mono : ∀ a0 a1 k, LeO (spec_TokenOk.f k a0 a1) (spec_TokenOk.f (k + 1) a0 a1) := by
 intro a0 a1 k
 unfold spec_TokenOk.f
 repeat' first
   | (with_reducible exact spec_l8Name.mono _ _)
   | (with_reducible exact LeO.refl _)
   | (with_reducible exact LeO.none _)
   | (with_reducible refine LeO.ite ?_ ?_)
   | (with_reducible refine LeO.bind ?_ (fun _ => ?_))
   | exact spec_l8Name.mono _ _
   | exact LeO.none _
   | refine LeO.ite ?_ ?_
   | refine LeO.bind ?_ (fun _ => ?_)
set_option maxHeartbeats 8000000 in
set_option maxRecDepth 100000 in
theorem spec_TokenOk.calls (k : Nat) (a0_0 : Int) (a0_1 : ByteArray) (r : Bool) (w : World) (h : spec_TokenOk.f k a0_0 a0_1 = some r) :
  Calls Try.prog 60 #[.agg #[.int .i64 a0_0, .string a0_1]] w fun e w' => e = .returned (.bool r) ∧ Below w.heap.size w w' := by
 have hu73 := Try.underlying73
 have HB := aM_ (Below.refl w.heap.size w)
 have H : (if a0_0 = 1 then ((spec_l8Name.f k a0_1).bind fun t223 => (some t223)) else (if a0_0 = 2 then ((spec_l8Mark.f a0_1).bind fun t224 => (some t224)) else (some false))) = some r := h
 clear h
 by_cases c2 : a0_0 = 1
 ·rw [if_pos c2] at H
  have c2b0 : (a0_0 == 1) = true := beq_iff_eq.mpr c2
  have c2b1 : (a0_0 != 1) = false := bne_eq_false_iff_eq.mpr c2
  clear c2
  replace H := oB_ H
  obtain ⟨t223, A30, H⟩ := H
  replace H : (some t223) = some r := H
  have A3 := aM_ A30
  clear A30
  obtain rfl := Option.some.inj H
  go_enter Try.func60, Try.ntmps60
  go_wp2_with (first | ((with_reducible refine gate_dst (N := 1) rfl ?_); refine box_event ?hg (N := 1) ?hd (cs := #[.int .i64 a0_0, .string a0_1]) (t := 73) ?hr ?_; (case hd => rfl); (case hg => rfl); (case hr => first | (go_simp; done) | (go_simp; rfl)); intro gb222 hg w4 hbox hb; have n0_ := aM_ (bT_ (by repeat (first | (with_reducible first | exact HB.out | apply bA_ | apply bN_ | apply bD_) | exact HB.out)) hb); have n1_ := aM_ (hbox); have n2_ := aM_ ((by rw [hg]; exact (bS_ (by repeat (first | (with_reducible first | exact HB.out | apply bA_ | apply bN_ | apply bD_) | exact HB.out))) : w.heap.size ≤ gb222)); have n3_ := aM_ ((by rw [hg]; exact (bS_ (by repeat (first | (with_reducible first | exact HB.out | apply bA_ | apply bN_ | apply bD_) | exact HB.out))) : w.heap.size ≤ gb222)); clear HB; have HB := n0_; have BK222 := n1_; have GW222 := n2_; have GE222 := n3_; clear n0_ n1_ n2_ n3_; clear hb hbox hg; have hcz5_0 : w4.cell? ⟨gb222, 0, none⟩ = some (.int .i64 a0_0) := (kC_ BK222.out 0).trans rfl; have hcz5_1 : w4.cell? ⟨gb222, 1, none⟩ = some (.string a0_1) := (kC_ BK222.out 1).trans rfl; have hfz5_0 := kF_ BK222.out 0; have hfz5_1 := kF_ BK222.out 1) | ((with_reducible refine gate_callee (f := 131) rfl ?_); refine goesL_ (some 9) rfl rfl Try.func131 (by kernel_rfl) rfl #[.string a0_1] rfl (by (try simp only [mA_, mC_, mN_]); first | done | rfl | (simp only [lD_, lT_]; rfl)) ?_; (with_reducible refine (spec_l8Name.calls k a0_1 t223 _ A3.out).mono ?_); rintro e w' ⟨rfl, ⟨nd, rfl⟩⟩; refine ⟨_, rfl, ?_⟩))
  go_ret
  exact ⟨by first | rfl | (simp [errW_none, errW_some] <;> rfl) | (simp [*, errW_none, errW_some] <;> rfl), by repeat (first | (with_reducible first | exact HB.out | apply bA_ | apply bN_ | apply bD_ | refine bE_ ?_ GE222.out) | exact HB.out)⟩
 ·rw [if_neg c2] at H
  have c2b0 : (a0_0 == 1) = false := beq_eq_false_iff_ne.mpr c2
  have c2b1 : (a0_0 != 1) = true := bne_iff_ne.mpr c2
  by_cases c6 : a0_0 = 2
  ·rw [if_pos c6] at H
   have c6b0 : (a0_0 == 2) = true := beq_iff_eq.mpr c6
   have c6b1 : (a0_0 != 2) = false := bne_eq_false_iff_eq.mpr c6
   clear c6
   replace H := oB_ H
   obtain ⟨t224, A70, H⟩ := H
   replace H : (some t224) = some r := H
   have A7 := aM_ A70
   clear A70
   obtain rfl := Option.some.inj H
   go_enter Try.func60, Try.ntmps60
   go_wp2_with (first | ((with_reducible refine gate_dst (N := 1) rfl ?_); refine box_event ?hg (N := 1) ?hd (cs := #[.int .i64 a0_0, .string a0_1]) (t := 73) ?hr ?_; (case hd => rfl); (case hg => rfl); (case hr => first | (go_simp; done) | (go_simp; rfl)); intro gb222 hg w8 hbox hb; have n0_ := aM_ (bT_ (by repeat (first | (with_reducible first | exact HB.out | apply bA_ | apply bN_ | apply bD_) | exact HB.out)) hb); have n1_ := aM_ (hbox); have n2_ := aM_ ((by rw [hg]; exact (bS_ (by repeat (first | (with_reducible first | exact HB.out | apply bA_ | apply bN_ | apply bD_) | exact HB.out))) : w.heap.size ≤ gb222)); have n3_ := aM_ ((by rw [hg]; exact (bS_ (by repeat (first | (with_reducible first | exact HB.out | apply bA_ | apply bN_ | apply bD_) | exact HB.out))) : w.heap.size ≤ gb222)); clear HB; have HB := n0_; have BK222 := n1_; have GW222 := n2_; have GE222 := n3_; clear n0_ n1_ n2_ n3_; clear hb hbox hg; have hcz9_0 : w8.cell? ⟨gb222, 0, none⟩ = some (.int .i64 a0_0) := (kC_ BK222.out 0).trans rfl; have hcz9_1 : w8.cell? ⟨gb222, 1, none⟩ = some (.string a0_1) := (kC_ BK222.out 1).trans rfl; have hfz9_0 := kF_ BK222.out 0; have hfz9_1 := kF_ BK222.out 1) | ((with_reducible refine gate_callee (f := 132) rfl ?_); refine goesL_ (some 14) rfl rfl Try.func132 (by kernel_rfl) rfl #[.string a0_1] rfl (by (try simp only [mA_, mC_, mN_]); first | done | rfl | (simp only [lD_, lT_]; rfl)) ?_; (with_reducible refine (spec_l8Mark.calls a0_1 t224 _ A7.out).mono ?_); rintro e w' ⟨rfl, ⟨nd, rfl⟩⟩; refine ⟨_, rfl, ?_⟩))
   go_ret
   exact ⟨by first | rfl | (simp [errW_none, errW_some] <;> rfl) | (simp [*, errW_none, errW_some] <;> rfl), by repeat (first | (with_reducible first | exact HB.out | apply bA_ | apply bN_ | apply bD_ | refine bE_ ?_ GE222.out) | exact HB.out)⟩
  ·rw [if_neg c6] at H
   have c6b0 : (a0_0 == 2) = false := beq_eq_false_iff_ne.mpr c6
   have c6b1 : (a0_0 != 2) = true := bne_iff_ne.mpr c6
   obtain rfl := Option.some.inj H
   go_enter Try.func60, Try.ntmps60
   go_wp2_with (first | ((with_reducible refine gate_dst (N := 1) rfl ?_); refine box_event ?hg (N := 1) ?hd (cs := #[.int .i64 a0_0, .string a0_1]) (t := 73) ?hr ?_; (case hd => rfl); (case hg => rfl); (case hr => first | (go_simp; done) | (go_simp; rfl)); intro gb222 hg w10 hbox hb; have n0_ := aM_ (bT_ (by repeat (first | (with_reducible first | exact HB.out | apply bA_ | apply bN_ | apply bD_) | exact HB.out)) hb); have n1_ := aM_ (hbox); have n2_ := aM_ ((by rw [hg]; exact (bS_ (by repeat (first | (with_reducible first | exact HB.out | apply bA_ | apply bN_ | apply bD_) | exact HB.out))) : w.heap.size ≤ gb222)); have n3_ := aM_ ((by rw [hg]; exact (bS_ (by repeat (first | (with_reducible first | exact HB.out | apply bA_ | apply bN_ | apply bD_) | exact HB.out))) : w.heap.size ≤ gb222)); clear HB; have HB := n0_; have BK222 := n1_; have GW222 := n2_; have GE222 := n3_; clear n0_ n1_ n2_ n3_; clear hb hbox hg; have hcz11_0 : w10.cell? ⟨gb222, 0, none⟩ = some (.int .i64 a0_0) := (kC_ BK222.out 0).trans rfl; have hcz11_1 : w10.cell? ⟨gb222, 1, none⟩ = some (.string a0_1) := (kC_ BK222.out 1).trans rfl; have hfz11_0 := kF_ BK222.out 0; have hfz11_1 := kF_ BK222.out 1))
   go_ret
   exact ⟨by first | rfl | (simp [errW_none, errW_some] <;> rfl) | (simp [*, errW_none, errW_some] <;> rfl), by repeat (first | (with_reducible first | exact HB.out | apply bA_ | apply bN_ | apply bD_ | refine bE_ ?_ GE222.out) | exact HB.out)⟩

end Go.Proofs.Ytllgmgpfdnofmaa.PFnLexed
