-- Written by a program of this session, which builds on the kit's print
import Derived.Test.YtllgmgpfdnofmaaZGNPFnExactGetNodex0
import Derived.Test.YtllgmgpfdnofmaaZGNPFnExactGetNodex5
import Derived.Test.YtllgmgpfdnofmaaZGNPFnExactGetNodex6
namespace Go.Proofs.Ytllgmgpfdnofmaa.PFnExactGetNode
open Go.RowKit Go.Proofs.YtllgmgpfdnofmaaW.PrintWords Go.Proofs.YtllgmgpfdnofmaaW.PrintLast Go.Proofs.YtllgmgpfdnofmaaW.PrintMore Go.Proofs.Ytllgmgpfdnofmaa.Xtra
attribute [local go_sem] max2_int min2_int max_two min_two max_three min_three max_four min_four str_leq str_gtr str_geq setCell_drewN cell_set2 cell_set3   -- for this text's walks alone
set_option linter.unusedVariables false
set_option linter.unusedSimpArgs false

/-! ### spec_GetNode: function 21 -/
mutual
def spec_GetNode.j0 : Nat → List Int → Int → Int → List Int → Int → Bool → Option (Bool × List ByteArray × List ByteArray × List Int × Bool)
 | 0, _, _, _, _, _, _ => none
 | k + 1, x0, x5, x6, x193000, x193001, x193002 => spec_GetNode.l0 k x0 x6 0 x193000 x193001 x193002 ((x5 == 1)) ([] : List ByteArray)
def spec_GetNode.j2 : Nat → List Int → Int → List Int → Int → Bool → Bool → List ByteArray → Option (Bool × List ByteArray × List ByteArray × List Int × Bool)
 | 0, _, _, _, _, _, _, _ => none
 | k + 1, x0, x6, x193000, x193001, x193002, x201000, x201001 => spec_GetNode.l1 k x0 x6 0 x193000 x193001 x193002 x201000 x201001 ([] : List ByteArray)
def spec_GetNode.j4 : Nat → List Int → Int → List Int → Int → Bool → Bool → List ByteArray → List ByteArray → Option (Bool × List ByteArray × List ByteArray × List Int × Bool)
 | 0, _, _, _, _, _, _, _, _ => none
 | k + 1, x0, x6, x193000, x193001, x193002, x201000, x201001, x201002 => spec_GetNode.l2 k x0 x6 0 x193000 x193001 x193002 x201000 x201001 x201002 ([] : List Int)
def spec_GetNode.l2 : Nat → List Int → Int → Int → List Int → Int → Bool → Bool → List ByteArray → List ByteArray → List Int → Option (Bool × List ByteArray × List ByteArray × List Int × Bool)
 | 0, _, _, _, _, _, _, _, _, _, _ => none
 | k + 1, x0, x6, x12, x193000, x193001, x193002, x201000, x201001, x201002, x201003 => if x12 ≤ x6 then (if x193002 = true then (some (false, ([] : List ByteArray), ([] : List ByteArray), ([] : List Int), false)) else (if x201000 = true then (if x193001 = (x0.length : Int) then ((spec_NodeOk.f k x201000 x201001 x201002 x201003).bind fun t213 => (if t213 = true then (some (x201000, x201001, x201002, x201003, true)) else (some (false, ([] : List ByteArray), ([] : List ByteArray), ([] : List Int), false)))) else (some (false, ([] : List ByteArray), ([] : List ByteArray), ([] : List Int), false))) else ((spec_l14Num.f k x193000 x193001 x193002).bind fun bt214 => (if x201003.length < 17592186044416 then (spec_GetNode.l2 k x0 x6 (wrap64 (x12 + 1)) x193000 bt214.2.1 bt214.2.2 x201000 x201001 x201002 (x201003 ++ [bt214.1])) else (none))))) else (if x193002 = true then (some (false, ([] : List ByteArray), ([] : List ByteArray), ([] : List Int), false)) else (if x193001 = (x0.length : Int) then ((spec_NodeOk.f k x201000 x201001 x201002 x201003).bind fun t220 => (if t220 = true then (some (x201000, x201001, x201002, x201003, true)) else (some (false, ([] : List ByteArray), ([] : List ByteArray), ([] : List Int), false)))) else (some (false, ([] : List ByteArray), ([] : List ByteArray), ([] : List Int), false))))
def spec_GetNode.l1 : Nat → List Int → Int → Int → List Int → Int → Bool → Bool → List ByteArray → List ByteArray → Option (Bool × List ByteArray × List ByteArray × List Int × Bool)
 | 0, _, _, _, _, _, _, _, _, _ => none
 | k + 1, x0, x6, x10, x193000, x193001, x193002, x201000, x201001, x201002 => if x10 < x6 then (if x193002 = true then (spec_GetNode.j4 k x0 x6 x193000 x193001 x193002 x201000 x201001 x201002) else (if x201000 = true then ((spec_l14Text.f k x193000 x193001 x193002).bind fun bt207 => (if x201002.length < 8796093022208 then (spec_GetNode.l1 k x0 x6 (wrap64 (x10 + 1)) x193000 bt207.2.1 bt207.2.2 x201000 x201001 (x201002 ++ [bt207.1])) else (none))) else (spec_GetNode.j4 k x0 x6 x193000 x193001 x193002 x201000 x201001 x201002))) else (spec_GetNode.j4 k x0 x6 x193000 x193001 x193002 x201000 x201001 x201002)
def spec_GetNode.l0 : Nat → List Int → Int → Int → List Int → Int → Bool → Bool → List ByteArray → Option (Bool × List ByteArray × List ByteArray × List Int × Bool)
 | 0, _, _, _, _, _, _, _, _ => none
 | k + 1, x0, x6, x8, x193000, x193001, x193002, x201000, x201001 => if x8 < x6 then (if x193002 = true then (spec_GetNode.j2 k x0 x6 x193000 x193001 x193002 x201000 x201001) else ((spec_l14Text.f k x193000 x193001 x193002).bind fun bt201 => (if x201001.length < 8796093022208 then (spec_GetNode.l0 k x0 x6 (wrap64 (x8 + 1)) x193000 bt201.2.1 bt201.2.2 x201000 (x201001 ++ [bt201.1])) else (none)))) else (spec_GetNode.j2 k x0 x6 x193000 x193001 x193002 x201000 x201001)
end
def spec_GetNode.f (k : Nat) (l0 : List Int) : Option (Bool × List ByteArray × List ByteArray × List Int × Bool) := (spec_l14Num.f k l0 0 false).bind fun bt193 => ((spec_l14Num.f k l0 bt193.2.1 bt193.2.2).bind fun bt196 => (if bt196.2.2 = true then (spec_GetNode.j0 k l0 bt193.1 bt196.1 l0 bt196.2.1 true) else (if bt193.1 > 1 then (spec_GetNode.j0 k l0 bt193.1 bt196.1 l0 bt196.2.1 true) else (spec_GetNode.j0 k l0 bt193.1 bt196.1 l0 bt196.2.1 (decide (bt196.1 > (l0.length : Int)))))))
theorem spec_GetNode.mono_l : ∀ k, (∀ y0 y1 y2 y3 y4 y5, LeO (spec_GetNode.j0 k y0 y1 y2 y3 y4 y5) (spec_GetNode.j0 (k + 1) y0 y1 y2 y3 y4 y5)) ∧ (∀ y0 y1 y2 y3 y4 y5 y6, LeO (spec_GetNode.j2 k y0 y1 y2 y3 y4 y5 y6) (spec_GetNode.j2 (k + 1) y0 y1 y2 y3 y4 y5 y6)) ∧ (∀ y0 y1 y2 y3 y4 y5 y6 y7, LeO (spec_GetNode.j4 k y0 y1 y2 y3 y4 y5 y6 y7) (spec_GetNode.j4 (k + 1) y0 y1 y2 y3 y4 y5 y6 y7)) ∧ (∀ y0 y1 y2 y3 y4 y5 y6 y7 y8 y9, LeO (spec_GetNode.l2 k y0 y1 y2 y3 y4 y5 y6 y7 y8 y9) (spec_GetNode.l2 (k + 1) y0 y1 y2 y3 y4 y5 y6 y7 y8 y9)) ∧ (∀ y0 y1 y2 y3 y4 y5 y6 y7 y8, LeO (spec_GetNode.l1 k y0 y1 y2 y3 y4 y5 y6 y7 y8) (spec_GetNode.l1 (k + 1) y0 y1 y2 y3 y4 y5 y6 y7 y8)) ∧ (∀ y0 y1 y2 y3 y4 y5 y6 y7, LeO (spec_GetNode.l0 k y0 y1 y2 y3 y4 y5 y6 y7) (spec_GetNode.l0 (k + 1) y0 y1 y2 y3 y4 y5 y6 y7))
 | 0 => ⟨fun _ _ _ _ _ _ r h => by simp [spec_GetNode.j0] at h, fun _ _ _ _ _ _ _ r h => by simp [spec_GetNode.j2] at h, fun _ _ _ _ _ _ _ _ r h => by simp [spec_GetNode.j4] at h, fun _ _ _ _ _ _ _ _ _ _ r h => by simp [spec_GetNode.l2] at h, fun _ _ _ _ _ _ _ _ _ r h => by simp [spec_GetNode.l1] at h, fun _ _ _ _ _ _ _ _ r h => by simp [spec_GetNode.l0] at h⟩
 | k + 1 => by
  obtain ⟨ih0, ih1, ih2, ih3, ih4, ih5⟩ := spec_GetNode.mono_l k
  refine ⟨?_, ?_, ?_, ?_, ?_, ?_⟩
  ·intro y0 y1 y2 y3 y4 y5
   unfold spec_GetNode.j0
   repeat' first
   | (with_reducible exact ih0 _ _ _ _ _ _)
   | (with_reducible exact ih1 _ _ _ _ _ _ _)
   | (with_reducible exact ih2 _ _ _ _ _ _ _ _)
   | (with_reducible exact ih3 _ _ _ _ _ _ _ _ _ _)
   | (with_reducible exact ih4 _ _ _ _ _ _ _ _ _)
   | (with_reducible exact ih5 _ _ _ _ _ _ _ _)
   | (with_reducible exact spec_NodeOk.mono _ _ _ _ _)
   | (with_reducible exact spec_l14Num.mono _ _ _ _)
   | (with_reducible exact spec_l14Text.mono _ _ _ _)
   | (with_reducible exact LeO.refl _)
   | (with_reducible exact LeO.none _)
   | (with_reducible refine LeO.ite ?_ ?_)
   | (with_reducible refine LeO.bind ?_ (fun _ => ?_))
   | exact ih0 _ _ _ _ _ _
   | exact ih1 _ _ _ _ _ _ _
   | exact ih2 _ _ _ _ _ _ _ _
   | exact ih3 _ _ _ _ _ _ _ _ _ _
   | exact ih4 _ _ _ _ _ _ _ _ _
   | exact ih5 _ _ _ _ _ _ _ _
   | exact spec_NodeOk.mono _ _ _ _ _
   | exact spec_l14Num.mono _ _ _ _
   | exact spec_l14Text.mono _ _ _ _
   | exact LeO.none _
   | refine LeO.ite ?_ ?_
   | refine LeO.bind ?_ (fun _ => ?_)
  ·intro y0 y1 y2 y3 y4 y5 y6
   unfold spec_GetNode.j2
   repeat' first
   | (with_reducible exact ih0 _ _ _ _ _ _)
   | (with_reducible exact ih1 _ _ _ _ _ _ _)
   | (with_reducible exact ih2 _ _ _ _ _ _ _ _)
   | (with_reducible exact ih3 _ _ _ _ _ _ _ _ _ _)
   | (with_reducible exact ih4 _ _ _ _ _ _ _ _ _)
   | (with_reducible exact ih5 _ _ _ _ _ _ _ _)
   | (with_reducible exact spec_NodeOk.mono _ _ _ _ _)
   | (with_reducible exact spec_l14Num.mono _ _ _ _)
   | (with_reducible exact spec_l14Text.mono _ _ _ _)
   | (with_reducible exact LeO.refl _)
   | (with_reducible exact LeO.none _)
   | (with_reducible refine LeO.ite ?_ ?_)
   | (with_reducible refine LeO.bind ?_ (fun _ => ?_))
   | exact ih0 _ _ _ _ _ _
   | exact ih1 _ _ _ _ _ _ _
   | exact ih2 _ _ _ _ _ _ _ _
   | exact ih3 _ _ _ _ _ _ _ _ _ _
   | exact ih4 _ _ _ _ _ _ _ _ _
   | exact ih5 _ _ _ _ _ _ _ _
   | exact spec_NodeOk.mono _ _ _ _ _
   | exact spec_l14Num.mono _ _ _ _
   | exact spec_l14Text.mono _ _ _ _
   | exact LeO.none _
   | refine LeO.ite ?_ ?_
   | refine LeO.bind ?_ (fun _ => ?_)
  ·intro y0 y1 y2 y3 y4 y5 y6 y7
   unfold spec_GetNode.j4
   repeat' first
   | (with_reducible exact ih0 _ _ _ _ _ _)
   | (with_reducible exact ih1 _ _ _ _ _ _ _)
   | (with_reducible exact ih2 _ _ _ _ _ _ _ _)
   | (with_reducible exact ih3 _ _ _ _ _ _ _ _ _ _)
   | (with_reducible exact ih4 _ _ _ _ _ _ _ _ _)
   | (with_reducible exact ih5 _ _ _ _ _ _ _ _)
   | (with_reducible exact spec_NodeOk.mono _ _ _ _ _)
   | (with_reducible exact spec_l14Num.mono _ _ _ _)
   | (with_reducible exact spec_l14Text.mono _ _ _ _)
   | (with_reducible exact LeO.refl _)
   | (with_reducible exact LeO.none _)
   | (with_reducible refine LeO.ite ?_ ?_)
   | (with_reducible refine LeO.bind ?_ (fun _ => ?_))
   | exact ih0 _ _ _ _ _ _
   | exact ih1 _ _ _ _ _ _ _
   | exact ih2 _ _ _ _ _ _ _ _
   | exact ih3 _ _ _ _ _ _ _ _ _ _
   | exact ih4 _ _ _ _ _ _ _ _ _
   | exact ih5 _ _ _ _ _ _ _ _
   | exact spec_NodeOk.mono _ _ _ _ _
   | exact spec_l14Num.mono _ _ _ _
   | exact spec_l14Text.mono _ _ _ _
   | exact LeO.none _
   | refine LeO.ite ?_ ?_
   | refine LeO.bind ?_ (fun _ => ?_)
  ·intro y0 y1 y2 y3 y4 y5 y6 y7 y8 y9
   unfold spec_GetNode.l2
   repeat' first
   | (with_reducible exact ih0 _ _ _ _ _ _)
   | (with_reducible exact ih1 _ _ _ _ _ _ _)
   | (with_reducible exact ih2 _ _ _ _ _ _ _ _)
   | (with_reducible exact ih3 _ _ _ _ _ _ _ _ _ _)
   | (with_reducible exact ih4 _ _ _ _ _ _ _ _ _)
   | (with_reducible exact ih5 _ _ _ _ _ _ _ _)
   | (with_reducible exact spec_NodeOk.mono _ _ _ _ _)
   | (with_reducible exact spec_l14Num.mono _ _ _ _)
   | (with_reducible exact spec_l14Text.mono _ _ _ _)
   | (with_reducible exact LeO.refl _)
   | (with_reducible exact LeO.none _)
   | (with_reducible refine LeO.ite ?_ ?_)
   | (with_reducible refine LeO.bind ?_ (fun _ => ?_))
   | exact ih0 _ _ _ _ _ _
   | exact ih1 _ _ _ _ _ _ _
   | exact ih2 _ _ _ _ _ _ _ _
   | exact ih3 _ _ _ _ _ _ _ _ _ _
   | exact ih4 _ _ _ _ _ _ _ _ _
   | exact ih5 _ _ _ _ _ _ _ _
   | exact spec_NodeOk.mono _ _ _ _ _
   | exact spec_l14Num.mono _ _ _ _
   | exact spec_l14Text.mono _ _ _ _
   | exact LeO.none _
   | refine LeO.ite ?_ ?_
   | refine LeO.bind ?_ (fun _ => ?_)
  ·intro y0 y1 y2 y3 y4 y5 y6 y7 y8
   unfold spec_GetNode.l1
   repeat' first
   | (with_reducible exact ih0 _ _ _ _ _ _)
   | (with_reducible exact ih1 _ _ _ _ _ _ _)
   | (with_reducible exact ih2 _ _ _ _ _ _ _ _)
   | (with_reducible exact ih3 _ _ _ _ _ _ _ _ _ _)
   | (with_reducible exact ih4 _ _ _ _ _ _ _ _ _)
   | (with_reducible exact ih5 _ _ _ _ _ _ _ _)
   | (with_reducible exact spec_NodeOk.mono _ _ _ _ _)
   | (with_reducible exact spec_l14Num.mono _ _ _ _)
   | (with_reducible exact spec_l14Text.mono _ _ _ _)
   | (with_reducible exact LeO.refl _)
   | (with_reducible exact LeO.none _)
   | (with_reducible refine LeO.ite ?_ ?_)
   | (with_reducible refine LeO.bind ?_ (fun _ => ?_))
   | exact ih0 _ _ _ _ _ _
   | exact ih1 _ _ _ _ _ _ _
   | exact ih2 _ _ _ _ _ _ _ _
   | exact ih3 _ _ _ _ _ _ _ _ _ _
   | exact ih4 _ _ _ _ _ _ _ _ _
   | exact ih5 _ _ _ _ _ _ _ _
   | exact spec_NodeOk.mono _ _ _ _ _
   | exact spec_l14Num.mono _ _ _ _
   | exact spec_l14Text.mono _ _ _ _
   | exact LeO.none _
   | refine LeO.ite ?_ ?_
   | refine LeO.bind ?_ (fun _ => ?_)
  ·intro y0 y1 y2 y3 y4 y5 y6 y7
   unfold spec_GetNode.l0
   repeat' first
   | (with_reducible exact ih0 _ _ _ _ _ _)
   | (with_reducible exact ih1 _ _ _ _ _ _ _)
   | (with_reducible exact ih2 _ _ _ _ _ _ _ _)
   | (with_reducible exact ih3 _ _ _ _ _ _ _ _ _ _)
   | (with_reducible exact ih4 _ _ _ _ _ _ _ _ _)
   | (with_reducible exact ih5 _ _ _ _ _ _ _ _)
   | (with_reducible exact spec_NodeOk.mono _ _ _ _ _)
   | (with_reducible exact spec_l14Num.mono _ _ _ _)
   | (with_reducible exact spec_l14Text.mono _ _ _ _)
   | (with_reducible exact LeO.refl _)
   | (with_reducible exact LeO.none _)
   | (with_reducible refine LeO.ite ?_ ?_)
   | (with_reducible refine LeO.bind ?_ (fun _ => ?_))
   | exact ih0 _ _ _ _ _ _
   | exact ih1 _ _ _ _ _ _ _
   | exact ih2 _ _ _ _ _ _ _ _
   | exact ih3 _ _ _ _ _ _ _ _ _ _
   | exact ih4 _ _ _ _ _ _ _ _ _
   | exact ih5 _ _ _ _ _ _ _ _
   | exact spec_NodeOk.mono _ _ _ _ _
   | exact spec_l14Num.mono _ _ _ _
   | exact spec_l14Text.mono _ _ _ _
   | exact LeO.none _
   | refine LeO.ite ?_ ?_
   | refine LeO.bind ?_ (fun _ => ?_)
theorem spec_GetNode.mono : ∀ a0 k, LeO (spec_GetNode.f k a0) (spec_GetNode.f (k + 1) a0) := by
 intro a0 k
 obtain ⟨ih0, ih1, ih2, ih3, ih4, ih5⟩ := spec_GetNode.mono_l k
 unfold spec_GetNode.f
 repeat' first
   | (with_reducible exact ih0 _ _ _ _ _ _)
   | (with_reducible exact ih1 _ _ _ _ _ _ _)
   | (with_reducible exact ih2 _ _ _ _ _ _ _ _)
   | (with_reducible exact ih3 _ _ _ _ _ _ _ _ _ _)
   | (with_reducible exact ih4 _ _ _ _ _ _ _ _ _)
   | (with_reducible exact ih5 _ _ _ _ _ _ _ _)
   | (with_reducible exact spec_NodeOk.mono _ _ _ _ _)
   | (with_reducible exact spec_l14Num.mono _ _ _ _)
   | (with_reducible exact spec_l14Text.mono _ _ _ _)
   | (with_reducible exact LeO.refl _)
   | (with_reducible exact LeO.none _)
   | (with_reducible refine LeO.ite ?_ ?_)
   | (with_reducible refine LeO.bind ?_ (fun _ => ?_))
   | exact ih0 _ _ _ _ _ _
   | exact ih1 _ _ _ _ _ _ _
   | exact ih2 _ _ _ _ _ _ _ _
   | exact ih3 _ _ _ _ _ _ _ _ _ _
   | exact ih4 _ _ _ _ _ _ _ _ _
   | exact ih5 _ _ _ _ _ _ _ _
   | exact spec_NodeOk.mono _ _ _ _ _
   | exact spec_l14Num.mono _ _ _ _
   | exact spec_l14Text.mono _ _ _ _
   | exact LeO.none _
   | refine LeO.ite ?_ ?_
   | refine LeO.bind ?_ (fun _ => ?_)
set_option maxHeartbeats 8000000 in
set_option maxRecDepth 100000 in
theorem spec_GetNode.calls (k : Nat) (A0 : Option Addr) (c0 : Nat) (l0 : List Int) (r1 : Bool) (r2 : List ByteArray) (r3 : List ByteArray) (r4 : List Int) (r5 : Bool) (w : World) (hr0 : Kd.C (Kd.int .u8) w A0 l0.length l0) (hc0 : l0.length ≤ c0) (h : spec_GetNode.f k l0 = some (r1, r2, r3, r4, r5)) :
  Calls Try.prog 21 #[.slice A0 l0.length c0] w fun e w' => ∃ v1_ v2_ v3_ : Value, e = .returned (.tuple #[.agg #[.bool r1, v1_, v2_, v3_], .bool r5]) ∧ Kd.R Kd.string 9 w' w.heap.size (fun k_ => some k_ ≠ (v2_ : Value).ownBlock) v1_ r2 ∧ Kd.R Kd.string 9 w' w.heap.size (fun k_ => some k_ ≠ (v1_ : Value).ownBlock) v2_ r3 ∧ Kd.R (Kd.int .i64) 3 w' w.heap.size (fun _ => True) v3_ r4 ∧ Below w.heap.size w w' := by
 have hu29 := Try.underlying29
 have hu98 := Try.underlying98
 have HR0 := aM_ hr0
 have HC0 := aM_ hc0
 clear hr0 hc0
 have HB := aM_ (Below.refl w.heap.size w)
 have H : ((spec_l14Num.f k l0 0 false).bind fun bt193 => ((spec_l14Num.f k l0 bt193.2.1 bt193.2.2).bind fun bt196 => (if bt196.2.2 = true then (spec_GetNode.j0 k l0 bt193.1 bt196.1 l0 bt196.2.1 true) else (if bt193.1 > 1 then (spec_GetNode.j0 k l0 bt193.1 bt196.1 l0 bt196.2.1 true) else (spec_GetNode.j0 k l0 bt193.1 bt196.1 l0 bt196.2.1 (decide (bt196.1 > (l0.length : Int)))))))) = some (r1, r2, r3, r4, r5) := h
 clear h
 replace H := oB_ H
 obtain ⟨⟨t193, t194, t195⟩, A20, H⟩ := H
 replace H : ((spec_l14Num.f k l0 t194 t195).bind fun bt196 => (if bt196.2.2 = true then (spec_GetNode.j0 k l0 t193 bt196.1 l0 bt196.2.1 true) else (if t193 > 1 then (spec_GetNode.j0 k l0 t193 bt196.1 l0 bt196.2.1 true) else (spec_GetNode.j0 k l0 t193 bt196.1 l0 bt196.2.1 (decide (bt196.1 > (l0.length : Int))))))) = some (r1, r2, r3, r4, r5) := H
 have A2 := aM_ A20
 clear A20
 replace H := oB_ H
 obtain ⟨⟨t196, t197, t198⟩, A30, H⟩ := H
 replace H : (if t198 = true then (spec_GetNode.j0 k l0 t193 t196 l0 t197 true) else (if t193 > 1 then (spec_GetNode.j0 k l0 t193 t196 l0 t197 true) else (spec_GetNode.j0 k l0 t193 t196 l0 t197 (decide (t196 > (l0.length : Int)))))) = some (r1, r2, r3, r4, r5) := H
 have A3 := aM_ A30
 clear A30
 have HC4 := aM_ H
 clear H
 go_enter Try.func21, Try.ntmps21
 go_upto_region 4 with (first | ((with_reducible refine gate_dst (N := 2) rfl ?_); (try (refine gate_guard (by rfl) ?_; dsimp only)); refine box_event ?hg (N := 2) ?hd (cs := #[.bool false, .slice none 0 0, .slice none 0 0, .slice none 0 0]) (t := 29) ?hr ?_; (case hd => rfl); (case hg => rfl); (case hr => first | (go_simp; done) | (go_simp; rfl)); intro gb191 hg w5 hbox hb; have n0_ := aM_ (bT_ (by repeat (first | (with_reducible first | exact HB.out | apply bA_ | apply bN_ | apply bD_) | exact HB.out)) hb); have n1_ := aM_ (hbox); have n2_ := aM_ ((by rw [hg]; exact (bS_ (by repeat (first | (with_reducible first | exact HB.out | apply bA_ | apply bN_ | apply bD_) | exact HB.out))) : w.heap.size ≤ gb191)); have n3_ := aM_ ((by rw [hg]; exact (bS_ (by repeat (first | (with_reducible first | exact HB.out | apply bA_ | apply bN_ | apply bD_) | exact HB.out))) : w.heap.size ≤ gb191)); clear HB; have HB := n0_; have BK191 := n1_; have GW191 := n2_; have GE191 := n3_; clear n0_ n1_ n2_ n3_; clear hb hbox hg) | ((with_reducible refine gate_dst (N := 16) rfl ?_); (try (refine gate_guard (by rfl) ?_; dsimp only)); refine box_event ?hg (N := 16) ?hd (cs := #[.slice A0 l0.length c0, .int .i64 0, .bool false]) (t := 98) ?hr ?_; (case hd => rfl); (case hg => rfl); (case hr => first | (go_simp; done) | (go_simp; rfl)); intro gb192 hg w6 hbox hb; have n0_ := aM_ (blk_below (g := gb191) (o := .cells #[.bool false, .slice none 0 0, .slice none 0 0, .slice none 0 0] 29 (0, 0)) (by (with_reducible repeat (first | refine kN_ ?_ _ | refine kD_ ?_ | refine kA_ ?_ _)); exact BK191.out) hb); have n1_ := aM_ (bT_ (by repeat (first | (with_reducible first | exact HB.out | apply bA_ | apply bN_ | apply bD_ | refine bE_ ?_ GE191.out) | exact HB.out)) hb); have n2_ := aM_ (hbox); have n3_ := aM_ ((by rw [hg]; exact (bS_ (by repeat (first | (with_reducible first | exact HB.out | apply bA_ | apply bN_ | apply bD_ | refine bE_ ?_ GE191.out) | exact HB.out))) : w.heap.size ≤ gb192)); have n4_ := aM_ ((by rw [hg]; exact (bS_ (by repeat (first | (with_reducible first | exact HB.out | apply bA_ | apply bN_ | apply bD_ | refine bE_ ?_ GE191.out) | exact HB.out))) : w.heap.size ≤ gb192)); have n5_ := aM_ ((by rw [hg]; exact Nat.ne_of_lt (blk_lt (g := gb191) (o := .cells #[.bool false, .slice none 0 0, .slice none 0 0, .slice none 0 0] 29 (0, 0)) (by (with_reducible repeat (first | refine kN_ ?_ _ | refine kD_ ?_ | refine kA_ ?_ _)); exact BK191.out)) : gb191 ≠ gb192)); have n6_ := aM_ ((by rw [hg]; exact Nat.ne_of_gt (blk_lt (g := gb191) (o := .cells #[.bool false, .slice none 0 0, .slice none 0 0, .slice none 0 0] 29 (0, 0)) (by (with_reducible repeat (first | refine kN_ ?_ _ | refine kD_ ?_ | refine kA_ ?_ _)); exact BK191.out)) : gb192 ≠ gb191)); clear BK191; clear HB; have BK191 := n0_; have HB := n1_; have BK192 := n2_; have GW192 := n3_; have GE192 := n4_; have NB191_192 := n5_; have NB192_191 := n6_; clear n0_ n1_ n2_ n3_ n4_ n5_ n6_; clear hb hbox hg; have HI192 := aM_ (show J98 w _ gb192 l0 0 false from ⟨_, _, BK192.out, GE192.out, HR0.out, HC0.out⟩); clear BK192) | ((with_reducible refine gate_callee (f := 76) rfl ?_); refine goesL_ (some 18) rfl rfl Try.func76 (by kernel_rfl) rfl #[.pointer (some ⟨gb192, 0, none⟩)] rfl (by (try simp only [mA_, mC_, mN_]); first | done | rfl | (simp only [lD_, lT_]; rfl)) ?_; (with_reducible refine (spec_l14Num.calls k gb192 l0 0 false t193 t194 t195 w _ ?side1 ?side2 A2.out).mono ?_); (case side1 => repeat (first | (with_reducible first | exact HI192.out | apply J98.alloc | apply J98.drewN | apply J98.drew | apply J98.set_1 | apply J98.set_2 | refine J98.far ?_ NB192_191.out _) | exact HI192.out)); (case side2 => repeat (first | (with_reducible first | exact HB.out | apply bA_ | apply bN_ | apply bD_ | refine bE_ ?_ (J98.ge HI192.out) | refine bE_ ?_ GE191.out) | exact HB.out)); rintro e w7 ⟨rfl, hi, hb, hk⟩; refine ⟨_, rfl, ?_⟩; have n0_ := aM_ (KeepBut.blk hk (g' := gb191) (o := .cells #[.bool false, .slice none 0 0, .slice none 0 0, .slice none 0 0] 29 (0, 0)) (by (with_reducible repeat (first | refine kN_ ?_ _ | refine kD_ ?_ | refine kA_ ?_ _)); exact BK191.out) NB191_192.out (by simp)); have n1_ := aM_ (hb); have n2_ := aM_ (hi); clear BK191; clear HB; clear HI192; have BK191 := n0_; have HB := n1_; have HI192 := n2_; clear n0_ n1_ n2_; (try clear hb); (try clear hb2); (try clear hk); (try clear hi)) | ((with_reducible refine gate_callee (f := 76) rfl ?_); refine goesL_ (some 20) rfl rfl Try.func76 (by kernel_rfl) rfl #[.pointer (some ⟨gb192, 0, none⟩)] rfl (by (try simp only [mA_, mC_, mN_]); first | done | rfl | (simp only [lD_, lT_]; rfl)) ?_; (with_reducible refine (spec_l14Num.calls k gb192 l0 t194 t195 t196 t197 t198 w _ ?side1 ?side2 A3.out).mono ?_); (case side1 => repeat (first | (with_reducible first | exact HI192.out | apply J98.alloc | apply J98.drewN | apply J98.drew | apply J98.set_1 | apply J98.set_2 | refine J98.far ?_ NB192_191.out _) | exact HI192.out)); (case side2 => repeat (first | (with_reducible first | exact HB.out | apply bA_ | apply bN_ | apply bD_ | refine bE_ ?_ (J98.ge HI192.out) | refine bE_ ?_ GE191.out) | exact HB.out)); rintro e w8 ⟨rfl, hi, hb, hk⟩; refine ⟨_, rfl, ?_⟩; have n0_ := aM_ (KeepBut.blk hk (g' := gb191) (o := .cells #[.bool false, .slice none 0 0, .slice none 0 0, .slice none 0 0] 29 (0, 0)) (by (with_reducible repeat (first | refine kN_ ?_ _ | refine kD_ ?_ | refine kA_ ?_ _)); exact BK191.out) NB191_192.out (by simp)); have n1_ := aM_ (hb); have n2_ := aM_ (hi); clear BK191; clear HB; clear HI192; have BK191 := n0_; have HB := n1_; have HI192 := n2_; clear n0_ n1_ n2_; (try clear hb); (try clear hb2); (try clear hk); (try clear hi)))
 (try simp only [Act.put, sI_, sZ_, sS_])
 go_cut [] (fun wc => ∃ (kq : Nat) (x193002_3 : Bool), Aside0 (spec_GetNode.j0 kq l0 t193 t196 l0 t197 x193002_3 = some (r1, r2, r3, r4, r5)) ∧ Aside0 (kq ≤ k) ∧ Aside0 (wc.heap[gb191]? = some (.cells #[.bool false, (.slice none 0 0), (.slice none 0 0), (.slice none 0 0)] 29 (0, 0))) ∧ Aside0 (J98 w wc gb192 l0 t197 x193002_3) ∧ Aside0 (Below w.heap.size w wc))
 case first =>
  have H := HC4.out
  clear HC4
  by_cases c9 : t198 = true
  ·subst c9
   have H1 : (spec_GetNode.j0 k l0 t193 t196 l0 t197 true) = some (r1, r2, r3, r4, r5) := by rw [if_pos rfl] at H; exact H
   clear H
   have H := H1
   clear H1
   have H' := aM_ H
   clear H
   obtain ⟨ASz10_0, cSz10_0, HGz10, hgz10, HSz10_0, HLnz10_0⟩ := HI192.out
   have hcz10_0 := cellS98_0 HGz10
   have hcz10_1 := cellS98_1 HGz10
   have hcz10_2 := cellS98_2 HGz10
   have hfz10_1 := kF_ HGz10 1
   have hfz10_2 := kF_ HGz10 2
   clear HGz10 hgz10
   go_wp2
   (first | go_meet | (refine Met.intro ?_; go_step; (repeat apply Exists.intro); refine ⟨?rel, ?eq⟩; (case eq => (try simp only [c23b0]); (try simp only [c4b0]); (try simp only [c4b0]); rfl)))
   case rel => exact ⟨_, (true), H', ⟨by first | omega | exact Nat.le_refl _⟩, ⟨by (with_reducible repeat (first | refine kN_ ?_ _ | refine kD_ ?_ | refine kA_ ?_ _)); refine blk_far ?_ NB191_192.out _; (with_reducible repeat (first | refine kN_ ?_ _ | refine kD_ ?_ | refine kA_ ?_ _)); exact BK191.out⟩, ⟨by repeat (first | (with_reducible first | exact HI192.out | apply J98.alloc | apply J98.drewN | apply J98.drew | apply J98.set_1 | apply J98.set_2 | refine J98.far ?_ NB192_191.out _) | exact HI192.out)⟩, ⟨by repeat (first | (with_reducible first | exact HB.out | apply bA_ | apply bN_ | apply bD_ | refine bE_ ?_ (J98.ge HI192.out) | refine bE_ ?_ GE191.out) | exact HB.out)⟩⟩
  ·replace c9 := Bool.eq_false_iff.mpr c9
   subst c9
   have H1 : (if t193 > 1 then (spec_GetNode.j0 k l0 t193 t196 l0 t197 true) else (spec_GetNode.j0 k l0 t193 t196 l0 t197 (decide (t196 > (l0.length : Int))))) = some (r1, r2, r3, r4, r5) := by rw [if_neg (show ¬ (false = true) by decide)] at H; exact H
   clear H
   have H := H1
   clear H1
   by_cases c11 : t193 > 1
   ·rw [if_pos c11] at H
    have c11b0 : decide (1 < t193) = true := decide_eq_true c11
    clear c11
    (first | rw [c11b0] | (simp only [i64_w, i32_w]; rw [c11b0]) | skip)
    have H' := aM_ H
    clear H
    obtain ⟨ASz12_0, cSz12_0, HGz12, hgz12, HSz12_0, HLnz12_0⟩ := HI192.out
    have hcz12_0 := cellS98_0 HGz12
    have hcz12_1 := cellS98_1 HGz12
    have hcz12_2 := cellS98_2 HGz12
    have hfz12_1 := kF_ HGz12 1
    have hfz12_2 := kF_ HGz12 2
    clear HGz12 hgz12
    go_wp2
    (first | go_meet | (refine Met.intro ?_; go_step; (repeat apply Exists.intro); refine ⟨?rel, ?eq⟩; (case eq => (try simp only [c4b0]); (try simp only [c4b0]); (try simp only [c11b0]); rfl)))
    case rel => exact ⟨_, (true), H', ⟨by first | omega | exact Nat.le_refl _⟩, ⟨by (with_reducible repeat (first | refine kN_ ?_ _ | refine kD_ ?_ | refine kA_ ?_ _)); refine blk_far ?_ NB191_192.out _; (with_reducible repeat (first | refine kN_ ?_ _ | refine kD_ ?_ | refine kA_ ?_ _)); exact BK191.out⟩, ⟨by repeat (first | (with_reducible first | exact HI192.out | apply J98.alloc | apply J98.drewN | apply J98.drew | apply J98.set_1 | apply J98.set_2 | refine J98.far ?_ NB192_191.out _) | exact HI192.out)⟩, ⟨by repeat (first | (with_reducible first | exact HB.out | apply bA_ | apply bN_ | apply bD_ | refine bE_ ?_ (J98.ge HI192.out) | refine bE_ ?_ GE191.out) | exact HB.out)⟩⟩
   ·rw [if_neg c11] at H
    have c11b0 : decide (1 < t193) = false := decide_eq_false c11
    clear c11
    (first | rw [c11b0] | (simp only [i64_w, i32_w]; rw [c11b0]) | skip)
    have H' := aM_ H
    clear H
    obtain ⟨ASz13_0, cSz13_0, HGz13, hgz13, HSz13_0, HLnz13_0⟩ := HI192.out
    have hcz13_0 := cellS98_0 HGz13
    have hcz13_1 := cellS98_1 HGz13
    have hcz13_2 := cellS98_2 HGz13
    have hfz13_1 := kF_ HGz13 1
    have hfz13_2 := kF_ HGz13 2
    clear HGz13 hgz13
    go_wp2
    (first | go_meet | (refine Met.intro ?_; go_step; (repeat apply Exists.intro); refine ⟨?rel, ?eq⟩; (case eq => (try simp only [c4b0]); (try simp only [c11b0]); (try simp only [c11b0]); rfl)))
    case rel => exact ⟨_, (decide (t196 > (l0.length : Int))), H', ⟨by first | omega | exact Nat.le_refl _⟩, ⟨by (with_reducible repeat (first | refine kN_ ?_ _ | refine kD_ ?_ | refine kA_ ?_ _)); refine blk_far ?_ NB191_192.out _; (with_reducible repeat (first | refine kN_ ?_ _ | refine kD_ ?_ | refine kA_ ?_ _)); exact BK191.out⟩, ⟨by repeat (first | (with_reducible first | exact HI192.out | apply J98.alloc | apply J98.drewN | apply J98.drew | apply J98.set_1 | apply J98.set_2 | refine J98.far ?_ NB192_191.out _) | exact HI192.out)⟩, ⟨by repeat (first | (with_reducible first | exact HB.out | apply bA_ | apply bN_ | apply bD_ | refine bE_ ?_ (J98.ge HI192.out) | refine bE_ ?_ GE191.out) | exact HB.out)⟩⟩
 case rest =>
  clear HC4
  try clear c1
  try clear c2
  try clear p2
  try clear c4
  try clear c4b0
  try clear c7
  try clear c9
  try clear c11
  try clear c11b0
  try clear hcz10_0
  try clear hcz10_1
  try clear hcz10_2
  try clear hcz12_0
  try clear hcz12_1
  try clear hcz12_2
  try clear hcz13_0
  try clear hcz13_1
  try clear hcz13_2
  try clear hfz10_1
  try clear hfz10_2
  try clear hfz12_1
  try clear hfz12_2
  try clear hfz13_1
  try clear hfz13_2
  obtain ⟨kq, x193002_3, HA, HJ3, BK191, HI192, HB⟩ := hcut
  cases kq with
  | zero => exact absurd HA.out (by simp [spec_GetNode.j0])
  | succ kj3 =>
   have H := HA.out
   clear HA
   simp only [spec_GetNode.j0] at H
   obtain ⟨y199, hy199⟩ : ∃ y_ : Bool, y_ = ((t193 == 1)) := ⟨_, rfl⟩
   replace H : (spec_GetNode.l0 kj3 l0 t196 0 l0 t197 x193002_3 y199 ([] : List ByteArray)) = some (r1, r2, r3, r4, r5) := by first | (rw [hy199]; with_reducible exact H) | (have H2_ := (Option.bind_some _ _).symm.trans H; rw [hy199]; with_reducible exact H2_) | (have H2_ := (Option.bind_some _ _).symm.trans H; with_reducible exact H2_) | with_reducible exact H | (rw [hy199]; exact H) | exact H
   have Ny199 := aM_ hy199
   clear hy199
   have hqy199 := Ny199.out.symm
   have HC14 := aM_ H
   clear H
   go_upto_block 0 with (first | ((with_reducible refine gate_dst (N := 7) rfl ?_); (try (refine gate_guard (by rfl) ?_; dsimp only)); refine box_event ?hg (N := 7) ?hd (cs := #[.bool false, .slice none 0 0, .slice none 0 0, .slice none 0 0]) (t := 29) ?hr ?_; (case hd => rfl); (case hg => rfl); (case hr => first | (go_simp; done) | (go_simp; rfl)); intro gb200 hg w15 hbox hb; have n0_ := aM_ (blk_below (g := gb191) (o := .cells #[.bool false, .slice none 0 0, .slice none 0 0, .slice none 0 0] 29 (0, 0)) (by (with_reducible repeat (first | refine kN_ ?_ _ | refine kD_ ?_ | refine kA_ ?_ _)); exact BK191.out) hb); have n1_ := aM_ (J98.below (by repeat (first | (with_reducible first | exact HI192.out | apply J98.alloc | apply J98.drewN | apply J98.drew | apply J98.set_1 | apply J98.set_2 | refine J98.far ?_ NB192_191.out _) | exact HI192.out)) hb); have n2_ := aM_ (bT_ (by repeat (first | (with_reducible first | exact HB.out | apply bA_ | apply bN_ | apply bD_ | refine bE_ ?_ (J98.ge HI192.out) | refine bE_ ?_ GE191.out) | exact HB.out)) hb); have n3_ := aM_ (hbox); have n4_ := aM_ ((by rw [hg]; exact (bS_ (by repeat (first | (with_reducible first | exact HB.out | apply bA_ | apply bN_ | apply bD_ | refine bE_ ?_ (J98.ge HI192.out) | refine bE_ ?_ GE191.out) | exact HB.out))) : w.heap.size ≤ gb200)); have n5_ := aM_ ((by rw [hg]; exact (bS_ (by repeat (first | (with_reducible first | exact HB.out | apply bA_ | apply bN_ | apply bD_ | refine bE_ ?_ (J98.ge HI192.out) | refine bE_ ?_ GE191.out) | exact HB.out))) : w.heap.size ≤ gb200)); have n6_ := aM_ ((by rw [hg]; exact Nat.ne_of_lt (blk_lt (g := gb191) (o := .cells #[.bool false, .slice none 0 0, .slice none 0 0, .slice none 0 0] 29 (0, 0)) (by (with_reducible repeat (first | refine kN_ ?_ _ | refine kD_ ?_ | refine kA_ ?_ _)); exact BK191.out)) : gb191 ≠ gb200)); have n7_ := aM_ ((by rw [hg]; exact Nat.ne_of_gt (blk_lt (g := gb191) (o := .cells #[.bool false, .slice none 0 0, .slice none 0 0, .slice none 0 0] 29 (0, 0)) (by (with_reducible repeat (first | refine kN_ ?_ _ | refine kD_ ?_ | refine kA_ ?_ _)); exact BK191.out)) : gb200 ≠ gb191)); have n8_ := aM_ ((by rw [hg]; exact Nat.ne_of_lt (J98.lt (show J98 w _ gb192 l0 t197 x193002_3 from by repeat (first | (with_reducible first | exact HI192.out | apply J98.alloc | apply J98.drewN | apply J98.drew | apply J98.set_1 | apply J98.set_2 | refine J98.far ?_ NB192_191.out _) | exact HI192.out))) : gb192 ≠ gb200)); have n9_ := aM_ ((by rw [hg]; exact Nat.ne_of_gt (J98.lt (show J98 w _ gb192 l0 t197 x193002_3 from by repeat (first | (with_reducible first | exact HI192.out | apply J98.alloc | apply J98.drewN | apply J98.drew | apply J98.set_1 | apply J98.set_2 | refine J98.far ?_ NB192_191.out _) | exact HI192.out))) : gb200 ≠ gb192)); clear BK191; clear HI192; clear HB; have BK191 := n0_; have HI192 := n1_; have HB := n2_; have BK200 := n3_; have GW200 := n4_; have GE200 := n5_; have NB191_200 := n6_; have NB200_191 := n7_; have NB192_200 := n8_; have NB200_192 := n9_; clear n0_ n1_ n2_ n3_ n4_ n5_ n6_ n7_ n8_ n9_; clear hb hbox hg; have hnb16 := NB200_191.out; have hnc16 := NB191_200.out; have hnb17 := NB200_192.out; have hnc17 := NB192_200.out; have hcz18_0 : w15.cell? ⟨gb200, 0, none⟩ = some (.bool false) := (kC_ BK200.out 0).trans rfl; have hcz18_1 : w15.cell? ⟨gb200, 1, none⟩ = some (.slice none 0 0) := (kC_ BK200.out 1).trans rfl; have hcz18_2 : w15.cell? ⟨gb200, 2, none⟩ = some (.slice none 0 0) := (kC_ BK200.out 2).trans rfl; have hcz18_3 : w15.cell? ⟨gb200, 3, none⟩ = some (.slice none 0 0) := (kC_ BK200.out 3).trans rfl; have hfz18_0 := kF_ BK200.out 0; have hfz18_1 := kF_ BK200.out 1; have hfz18_2 := kF_ BK200.out 2; have hfz18_3 := kF_ BK200.out 3))
   (try simp only [Act.put, sI_, sZ_, sS_])
   go_cut [] (fun wc => ∃ (kq : Nat) (x193001_13 : Int) (x193002_13 : Bool) (x201001_13 : List ByteArray) (u201001 : Value), Aside0 (spec_GetNode.j2 kq l0 t196 l0 x193001_13 x193002_13 y199 x201001_13 = some (r1, r2, r3, r4, r5)) ∧ Aside0 (kq ≤ kj3) ∧ Aside0 (Kd.R Kd.string 9 wc w.heap.size (fun _ => True) u201001 x201001_13) ∧ Aside0 (wc.heap[gb191]? = some (.cells #[.bool false, (.slice none 0 0), (.slice none 0 0), (.slice none 0 0)] 29 (0, 0))) ∧ Aside0 (wc.heap[gb200]? = some (.cells #[.bool y199, u201001, (.slice none 0 0), (.slice none 0 0)] 29 (0, 0))) ∧ Aside0 (J98 w wc gb192 l0 x193001_13 x193002_13) ∧ Aside0 (Below w.heap.size w wc))
   case first =>
    have H := HC14.out
    clear HC14
    have H' := aM_ H
    clear H
    go_wp2
    (try simp only [Act.put, sI_, sS_, sZ_])
    go_loopg [8] kj3 (fun kq v8 w' => ∃ (x8_2 : Int) (x193001_2 : Int) (x193002_2 : Bool) (x201001_2 : List ByteArray) (u201001 : Value), v8 = .int .i64 x8_2 ∧ Aside0 (spec_GetNode.l0 kq l0 t196 x8_2 l0 x193001_2 x193002_2 y199 x201001_2 = some (r1, r2, r3, r4, r5)) ∧ Aside0 (kq ≤ kj3) ∧ Aside0 (Kd.R Kd.string 9 w' w.heap.size (fun _ => True) u201001 x201001_2) ∧ Aside0 (w'.heap[gb191]? = some (.cells #[.bool false, (.slice none 0 0), (.slice none 0 0), (.slice none 0 0)] 29 (0, 0))) ∧ Aside0 (w'.heap[gb200]? = some (.cells #[.bool y199, u201001, (.slice none 0 0), (.slice none 0 0)] 29 (0, 0))) ∧ Aside0 (J98 w w' gb192 l0 x193001_2 x193002_2) ∧ Aside0 (Below w.heap.size w w'))
    case atStart => exact ⟨(0), (t197), (x193002_3), (([] : List ByteArray)), (.slice none 0 0), (by first | rfl | (simp; done) | (simp [*]; done)), H', ⟨Nat.le_refl _⟩, ⟨by first | exact Kd.R_nil _ _ _ _ _ | exact Kd.N_nil _ _ _ _ _ | exact Kd.V_nil _ _ _ _ _ | exact Kd.Q_nil _ _ _ _ _ | exact Kd.S_nil _ _ _ _ _⟩, ⟨by (with_reducible repeat (first | refine kN_ ?_ _ | refine kD_ ?_ | refine kA_ ?_ _)); refine blk_far ?_ NB191_200.out _; (with_reducible repeat (first | refine kN_ ?_ _ | refine kD_ ?_ | refine kA_ ?_ _)); refine blk_far ?_ NB191_200.out _; (with_reducible repeat (first | refine kN_ ?_ _ | refine kD_ ?_ | refine kA_ ?_ _)); refine blk_far ?_ NB191_200.out _; (with_reducible repeat (first | refine kN_ ?_ _ | refine kD_ ?_ | refine kA_ ?_ _)); refine blk_far ?_ NB191_200.out _; (with_reducible repeat (first | refine kN_ ?_ _ | refine kD_ ?_ | refine kA_ ?_ _)); exact BK191.out⟩, ⟨by (with_reducible repeat (first | refine kN_ ?_ _ | refine kD_ ?_ | refine kA_ ?_ _)); refine kP_ (cs := #[.bool y199, .slice none 0 0, .slice none 0 0, .slice none 0 0]) ?_ 3 _ rfl; (with_reducible repeat (first | refine kN_ ?_ _ | refine kD_ ?_ | refine kA_ ?_ _)); refine kP_ (cs := #[.bool y199, .slice none 0 0, .slice none 0 0, .slice none 0 0]) ?_ 2 _ rfl; (with_reducible repeat (first | refine kN_ ?_ _ | refine kD_ ?_ | refine kA_ ?_ _)); refine kP_ (cs := #[.bool y199, .slice none 0 0, .slice none 0 0, .slice none 0 0]) ?_ 1 _ rfl; (with_reducible repeat (first | refine kN_ ?_ _ | refine kD_ ?_ | refine kA_ ?_ _)); refine kP_ (cs := #[.bool false, .slice none 0 0, .slice none 0 0, .slice none 0 0]) ?_ 0 _ rfl; (with_reducible repeat (first | refine kN_ ?_ _ | refine kD_ ?_ | refine kA_ ?_ _)); exact BK200.out⟩, ⟨by repeat (first | (with_reducible first | exact HI192.out | apply J98.alloc | apply J98.drewN | apply J98.drew | apply J98.set_1 | apply J98.set_2 | refine J98.far ?_ NB192_191.out _ | refine J98.far ?_ NB192_200.out _) | exact HI192.out)⟩, ⟨by repeat (first | (with_reducible first | exact HB.out | apply bA_ | apply bN_ | apply bD_ | refine bE_ ?_ (J98.ge HI192.out) | refine bE_ ?_ GE191.out | refine bE_ ?_ GE200.out) | exact HB.out)⟩⟩
    case round =>
     clear H'
     try clear c1
     try clear c2
     try clear p2
     try clear c4
     try clear c4b0
     try clear c7
     try clear c9
     try clear c11
     try clear c11b0
     try clear c16
     try clear c17
     try clear hcz10_0
     try clear hcz10_1
     try clear hcz10_2
     try clear hcz12_0
     try clear hcz12_1
     try clear hcz12_2
     try clear hcz13_0
     try clear hcz13_1
     try clear hcz13_2
     try clear hcz18_0
     try clear hcz18_1
     try clear hcz18_2
     try clear hcz18_3
     try clear hfz10_1
     try clear hfz10_2
     try clear hfz12_1
     try clear hfz12_2
     try clear hfz13_1
     try clear hfz13_2
     try clear hfz18_0
     try clear hfz18_1
     try clear hfz18_2
     try clear hfz18_3
     try clear p2
     obtain ⟨x8_2, x193001_2, x193002_2, x201001_2, u201001, rfl, HA, HK2, HO_201001, BK191, BK200, HI192, HB⟩ := hrel
     cases gk with
     | zero => exact absurd HA.out (by simp [spec_GetNode.l0])
     | succ k2 =>
      have H := HA.out
      clear HA
      simp only [spec_GetNode.l0] at H
      by_cases c19 : x8_2 < t196
      ·rw [if_pos c19] at H
       have c19b0 : decide (x8_2 < t196) = true := decide_eq_true c19
       clear c19
       (first | rw [c19b0] | (simp only [i64_w, i32_w]; rw [c19b0]) | skip)
       by_cases c20 : x193002_2 = true
       ·subst c20
        have H1 : (spec_GetNode.j2 k2 l0 t196 l0 x193001_2 true y199 x201001_2) = some (r1, r2, r3, r4, r5) := by rw [if_pos rfl] at H; exact H
        clear H
        have H := H1
        clear H1
        have H' := aM_ H
        clear H
        obtain ⟨ASz21_0, cSz21_0, HGz21, hgz21, HSz21_0, HLnz21_0⟩ := HI192.out
        have hcz21_0 := cellS98_0 HGz21
        have hcz21_1 := cellS98_1 HGz21
        have hcz21_2 := cellS98_2 HGz21
        have hfz21_1 := kF_ HGz21 1
        have hfz21_2 := kF_ HGz21 2
        clear HGz21 hgz21
        go_wp2
        (first | go_meet | (refine Met.intro ?_; go_step; (repeat apply Exists.intro); refine ⟨?rel, ?eq⟩; (case eq => (try simp only [c11b0]); (try simp only [c11b0]); (try simp only [c19b0]); rfl)))
        case rel => exact ⟨_, (x193001_2), (true), (x201001_2), (u201001), H', ⟨by have := HJ3.out; have := HK2.out; first | omega | exact Nat.le_refl _⟩, ⟨by (with_reducible repeat (first | apply rA_ | apply rN_ | apply rD_)); exact HO_201001.out⟩, ⟨by (with_reducible repeat (first | refine kN_ ?_ _ | refine kD_ ?_ | refine kA_ ?_ _)); exact BK191.out⟩, ⟨by (with_reducible repeat (first | refine kN_ ?_ _ | refine kD_ ?_ | refine kA_ ?_ _)); exact BK200.out⟩, ⟨by repeat (first | (with_reducible first | exact HI192.out | apply J98.alloc | apply J98.drewN | apply J98.drew | apply J98.set_1 | apply J98.set_2 | refine J98.far ?_ NB192_191.out _ | refine J98.far ?_ NB192_200.out _) | exact HI192.out)⟩, ⟨by repeat (first | (with_reducible first | exact HB.out | apply bA_ | apply bN_ | apply bD_ | refine bE_ ?_ (J98.ge HI192.out) | refine bE_ ?_ GE191.out | refine bE_ ?_ GE200.out) | exact HB.out)⟩⟩
       ·replace c20 := Bool.eq_false_iff.mpr c20
        subst c20
        have H1 : ((spec_l14Text.f k2 l0 x193001_2 false).bind fun bt201 => (if x201001_2.length < 8796093022208 then (spec_GetNode.l0 k2 l0 t196 (wrap64 (x8_2 + 1)) l0 bt201.2.1 bt201.2.2 y199 (x201001_2 ++ [bt201.1])) else (none))) = some (r1, r2, r3, r4, r5) := by rw [if_neg (show ¬ (false = true) by decide)] at H; exact H
        clear H
        have H := H1
        clear H1
        replace H := oB_ H
        obtain ⟨⟨t201, t202, t203⟩, A220, H⟩ := H
        replace H : (if x201001_2.length < 8796093022208 then (spec_GetNode.l0 k2 l0 t196 (wrap64 (x8_2 + 1)) l0 t202 t203 y199 (x201001_2 ++ [t201])) else (none)) = some (r1, r2, r3, r4, r5) := H
        have A22 := aM_ A220
        clear A220
        by_cases c23 : x201001_2.length < 8796093022208
        ·rw [if_pos c23] at H
         have LMc23 := aM_ c23
         clear c23
         obtain ⟨y204, hy204⟩ : ∃ y_ : List ByteArray, y_ = (x201001_2 ++ [t201]) := ⟨_, rfl⟩
         replace H : (spec_GetNode.l0 k2 l0 t196 (wrap64 (x8_2 + 1)) l0 t202 t203 y199 y204) = some (r1, r2, r3, r4, r5) := by first | (rw [hy204]; with_reducible exact H) | (have H2_ := (Option.bind_some _ _).symm.trans H; rw [hy204]; with_reducible exact H2_) | (have H2_ := (Option.bind_some _ _).symm.trans H; with_reducible exact H2_) | with_reducible exact H | (rw [hy204]; exact H) | exact H
         have Ny204 := aM_ hy204
         clear hy204
         have H' := aM_ H
         clear H
         obtain ⟨ASz24_0, cSz24_0, HGz24, hgz24, HSz24_0, HLnz24_0⟩ := HI192.out
         have hcz24_0 := cellS98_0 HGz24
         have hcz24_1 := cellS98_1 HGz24
         have hcz24_2 := cellS98_2 HGz24
         have hfz24_1 := kF_ HGz24 1
         have hfz24_2 := kF_ HGz24 2
         clear HGz24 hgz24
         go_wp2_with (first | ((with_reducible refine gate_callee (f := 77) rfl ?_); refine goesL_ (some 54) rfl rfl Try.func77 (by kernel_rfl) rfl #[.pointer (some ⟨gb192, 0, none⟩)] rfl (by (try simp only [mA_, mC_, mN_]); first | done | rfl | (simp only [lD_, lT_]; rfl)) ?_; (with_reducible refine (spec_l14Text.calls k2 gb192 l0 x193001_2 false t201 t202 t203 w _ ?side1 ?side2 A22.out).mono ?_); (case side1 => repeat (first | (with_reducible first | exact HI192.out | apply J98.alloc | apply J98.drewN | apply J98.drew | apply J98.set_1 | apply J98.set_2 | refine J98.far ?_ NB192_191.out _ | refine J98.far ?_ NB192_200.out _) | exact HI192.out)); (case side2 => repeat (first | (with_reducible first | exact HB.out | apply bA_ | apply bN_ | apply bD_ | refine bE_ ?_ (J98.ge HI192.out) | refine bE_ ?_ GE191.out | refine bE_ ?_ GE200.out) | exact HB.out)); rintro e w25 ⟨rfl, hi, hb, hk⟩; refine ⟨_, rfl, ?_⟩; have n0_ := aM_ (Kd.R_mono (Kd.R_keep (J98.apart (show J98 w _ gb192 l0 x193001_2 false from by repeat (first | (with_reducible first | exact HI192.out | apply J98.alloc | apply J98.drewN | apply J98.drew | apply J98.set_1 | apply J98.set_2 | refine J98.far ?_ NB192_191.out _ | refine J98.far ?_ NB192_200.out _) | exact HI192.out)) (by (with_reducible repeat (first | apply rA_ | apply rN_ | apply rD_)); exact HO_201001.out) (by decide)) hk (fun _ h => h.2)) (fun _ h => h.1)); have n1_ := aM_ (KeepBut.blk hk (g' := gb191) (o := .cells #[.bool false, .slice none 0 0, .slice none 0 0, .slice none 0 0] 29 (0, 0)) (by (with_reducible repeat (first | refine kN_ ?_ _ | refine kD_ ?_ | refine kA_ ?_ _)); exact BK191.out) NB191_192.out (by simp)); have n2_ := aM_ (KeepBut.blk hk (g' := gb200) (o := .cells #[.bool y199, u201001, .slice none 0 0, .slice none 0 0] 29 (0, 0)) (by (with_reducible repeat (first | refine kN_ ?_ _ | refine kD_ ?_ | refine kA_ ?_ _)); exact BK200.out) NB200_192.out (by simp)); have n3_ := aM_ (hb); have n4_ := aM_ (hi); clear HO_201001; clear BK191; clear BK200; clear HB; clear HI192; have HO_201001 := n0_; have BK191 := n1_; have BK200 := n2_; have HB := n3_; have HI192 := n4_; clear n0_ n1_ n2_ n3_ n4_; (try clear hb); (try clear hb2); (try clear hk); (try clear hi); have hnb26 := NB200_191.out; have hnc26 := NB191_200.out; have hnb27 := NB200_192.out; have hnc27 := NB192_200.out; have hcz28_0 : w25.cell? ⟨gb200, 0, none⟩ = some (.bool y199) := (kC_ BK200.out 0).trans rfl; have hcz28_1 : w25.cell? ⟨gb200, 1, none⟩ = some (u201001) := (kC_ BK200.out 1).trans rfl; have hcz28_2 : w25.cell? ⟨gb200, 2, none⟩ = some (.slice none 0 0) := (kC_ BK200.out 2).trans rfl; have hcz28_3 : w25.cell? ⟨gb200, 3, none⟩ = some (.slice none 0 0) := (kC_ BK200.out 3).trans rfl; have hfz28_0 := kF_ BK200.out 0; have hfz28_1 := kF_ BK200.out 1; have hfz28_2 := kF_ BK200.out 2; have hfz28_3 := kF_ BK200.out 3) | ((with_reducible refine gate_builtin (b := .append) (xs := #[.tmp 56, .tmp 58]) rfl ?_); (try (refine gate_guard (by rfl) ?_; dsimp only)); at_builtin; refine Kd.R_append Kd.string (w0 := w) w.heap.size rfl (.tmp 56) (.tmp 58) 22 9 (.string ⟨#[]⟩) 16 rfl Try.underlying22 info9 rfl (by decide) (by omega) u201001 x201001_2 t201 [.string t201] (fun _ => True) (fun _ => False) rfl rfl ?aP (fun _ hk => hk.elim) ?aF ?aO ?aB ?aS ?aL ?_; (case aP => exact rfl); (case aB => exact (by repeat (first | (with_reducible first | exact HB.out | apply bA_ | apply bN_ | apply bD_ | refine bE_ ?_ (J98.ge HI192.out) | refine bE_ ?_ GE191.out | refine bE_ ?_ GE200.out) | exact HB.out))); (case aF => exact (fun _ _ => trivial)); (case aO => exact (by (with_reducible repeat (first | apply rA_ | apply rN_ | apply rD_)); exact HO_201001.out)); (case aS => exact (bS_ (by repeat (first | (with_reducible first | exact HB.out | apply bA_ | apply bN_ | apply bD_ | refine bE_ ?_ (J98.ge HI192.out) | refine bE_ ?_ GE191.out | refine bE_ ?_ GE200.out) | exact HB.out)))); (case aL => have := LMc23.out; omega); intro v205 w29 ho hb hg hat; rw [← Ny204.out] at ho; have n0_ := aM_ (blk_grown (g := gb191) (o := .cells #[.bool false, .slice none 0 0, .slice none 0 0, .slice none 0 0] 29 (0, 0)) (by (with_reducible repeat (first | refine kN_ ?_ _ | refine kD_ ?_ | refine kA_ ?_ _)); exact BK191.out) hg (Kd.R_ne HO_201001.out BK191.out (by decide))); have n1_ := aM_ (blk_grown (g := gb200) (o := .cells #[.bool y199, u201001, .slice none 0 0, .slice none 0 0] 29 (0, 0)) (by (with_reducible repeat (first | refine kN_ ?_ _ | refine kD_ ?_ | refine kA_ ?_ _)); exact BK200.out) hg (Kd.R_ne HO_201001.out BK200.out (by decide))); have n2_ := aM_ (J98.grown (by repeat (first | (with_reducible first | exact HI192.out | apply J98.alloc | apply J98.drewN | apply J98.drew | apply J98.set_1 | apply J98.set_2 | refine J98.far ?_ NB192_191.out _ | refine J98.far ?_ NB192_200.out _) | exact HI192.out)) hg (J98.own_ne HI192.out HO_201001.out (by decide))); have n3_ := aM_ (hb); have n4_ := aM_ (ho); clear BK191; clear BK200; clear HI192; clear HB; clear HO_201001; have BK191 := n0_; have BK200 := n1_; have HI192 := n2_; have HB := n3_; have HO206 := n4_; clear n0_ n1_ n2_ n3_ n4_; clear ho hb hg hat; obtain ⟨Ao30, co30, eo30⟩ := Kd.R_slice HO206.out; subst eo30; have hcz31_0 : w29.cell? ⟨gb200, 0, none⟩ = some (.bool y199) := (kC_ BK200.out 0).trans rfl; have hcz31_1 : w29.cell? ⟨gb200, 1, none⟩ = some (u201001) := (kC_ BK200.out 1).trans rfl; have hcz31_2 : w29.cell? ⟨gb200, 2, none⟩ = some (.slice none 0 0) := (kC_ BK200.out 2).trans rfl; have hcz31_3 : w29.cell? ⟨gb200, 3, none⟩ = some (.slice none 0 0) := (kC_ BK200.out 3).trans rfl; have hfz31_0 := kF_ BK200.out 0; have hfz31_1 := kF_ BK200.out 1; have hfz31_2 := kF_ BK200.out 2; have hfz31_3 := kF_ BK200.out 3))
         go_roundg k2
         case measure => have := HJ3.out; have := HK2.out; omega
         case rel => exact ⟨(wrap64 (x8_2 + 1)), (t202), (t203), (y204), (.slice Ao30 y204.length co30), (by first | rfl | (simp; done) | (simp [*]; done)), H', ⟨by have := HJ3.out; have := HK2.out; omega⟩, ⟨by (with_reducible repeat (first | apply rA_ | apply rN_ | apply rD_)); exact Kd.R_mono (Kd.R_far (p := ⟨gb200, 1, none⟩) (Kd.R_types HO206.out BK200.out (by decide)) (fun _ hk => hk.2) (.slice Ao30 y204.length co30)) (fun _ hk => trivial)⟩, ⟨by (with_reducible repeat (first | refine kN_ ?_ _ | refine kD_ ?_ | refine kA_ ?_ _)); refine blk_far ?_ NB191_200.out _; (with_reducible repeat (first | refine kN_ ?_ _ | refine kD_ ?_ | refine kA_ ?_ _)); exact BK191.out⟩, ⟨by (with_reducible repeat (first | refine kN_ ?_ _ | refine kD_ ?_ | refine kA_ ?_ _)); refine kP_ (cs := #[.bool y199, u201001, .slice none 0 0, .slice none 0 0]) ?_ 1 _ rfl; (with_reducible repeat (first | refine kN_ ?_ _ | refine kD_ ?_ | refine kA_ ?_ _)); exact BK200.out⟩, ⟨by repeat (first | (with_reducible first | exact HI192.out | apply J98.alloc | apply J98.drewN | apply J98.drew | apply J98.set_1 | apply J98.set_2 | refine J98.far ?_ NB192_191.out _ | refine J98.far ?_ NB192_200.out _) | exact HI192.out)⟩, ⟨by repeat (first | (with_reducible first | exact HB.out | apply bA_ | apply bN_ | apply bD_ | refine bE_ ?_ (J98.ge HI192.out) | refine bE_ ?_ GE191.out | refine bE_ ?_ GE200.out) | exact HB.out)⟩⟩
        ·rw [if_neg c23] at H
         exact absurd H (by simp)
      ·rw [if_neg c19] at H
       have c19b0 : decide (x8_2 < t196) = false := decide_eq_false c19
       clear c19
       (first | rw [c19b0] | (simp only [i64_w, i32_w]; rw [c19b0]) | skip)
       have H' := aM_ H
       clear H
       go_wp2
       (first | go_meet | (refine Met.intro ?_; go_step; (repeat apply Exists.intro); refine ⟨?rel, ?eq⟩; (case eq => (try simp only [c11b0]); (try simp only [c19b0]); (try simp only [c19b0]); rfl)))
       case rel => exact ⟨_, (x193001_2), (x193002_2), (x201001_2), (u201001), H', ⟨by have := HJ3.out; have := HK2.out; first | omega | exact Nat.le_refl _⟩, ⟨by (with_reducible repeat (first | apply rA_ | apply rN_ | apply rD_)); exact HO_201001.out⟩, ⟨by (with_reducible repeat (first | refine kN_ ?_ _ | refine kD_ ?_ | refine kA_ ?_ _)); exact BK191.out⟩, ⟨by (with_reducible repeat (first | refine kN_ ?_ _ | refine kD_ ?_ | refine kA_ ?_ _)); exact BK200.out⟩, ⟨by repeat (first | (with_reducible first | exact HI192.out | apply J98.alloc | apply J98.drewN | apply J98.drew | apply J98.set_1 | apply J98.set_2 | refine J98.far ?_ NB192_191.out _ | refine J98.far ?_ NB192_200.out _) | exact HI192.out)⟩, ⟨by repeat (first | (with_reducible first | exact HB.out | apply bA_ | apply bN_ | apply bD_ | refine bE_ ?_ (J98.ge HI192.out) | refine bE_ ?_ GE191.out | refine bE_ ?_ GE200.out) | exact HB.out)⟩⟩
   case rest =>
    clear HC14
    try clear c1
    try clear c2
    try clear p2
    try clear c4
    try clear c4b0
    try clear p6
    try clear c7
    try clear c9
    try clear c11
    try clear c11b0
    try clear c16
    try clear c17
    try clear c19
    try clear c19b0
    try clear c20
    try clear c21
    try clear c23
    try clear c23b0
    try clear c26
    try clear c27
    try clear hcz10_0
    try clear hcz10_1
    try clear hcz10_2
    try clear hcz12_0
    try clear hcz12_1
    try clear hcz12_2
    try clear hcz13_0
    try clear hcz13_1
    try clear hcz13_2
    try clear hcz18_0
    try clear hcz18_1
    try clear hcz18_2
    try clear hcz18_3
    try clear hcz21_0
    try clear hcz21_1
    try clear hcz21_2
    try clear hcz24_0
    try clear hcz24_1
    try clear hcz24_2
    try clear hcz28_0
    try clear hcz28_1
    try clear hcz28_2
    try clear hcz28_3
    try clear hcz31_0
    try clear hcz31_1
    try clear hcz31_2
    try clear hcz31_3
    try clear hfz10_1
    try clear hfz10_2
    try clear hfz12_1
    try clear hfz12_2
    try clear hfz13_1
    try clear hfz13_2
    try clear hfz18_0
    try clear hfz18_1
    try clear hfz18_2
    try clear hfz18_3
    try clear hfz21_1
    try clear hfz21_2
    try clear hfz24_1
    try clear hfz24_2
    try clear hfz28_0
    try clear hfz28_1
    try clear hfz28_2
    try clear hfz28_3
    try clear hfz31_0
    try clear hfz31_1
    try clear hfz31_2
    try clear hfz31_3
    try clear p2
    obtain ⟨kq, x193001_13, x193002_13, x201001_13, u201001, HA, HJ13, HO_201001, BK191, BK200, HI192, HB⟩ := hcut
    cases kq with
    | zero => exact absurd HA.out (by simp [spec_GetNode.j2])
    | succ kj13 =>
     have H := HA.out
     clear HA
     simp only [spec_GetNode.j2] at H
     have HC32 := aM_ H
     clear H
     go_upto_block 2 with (fail)
     go_cut [] (fun wc => ∃ (kq : Nat) (x193001_31 : Int) (x193002_31 : Bool) (x201002_31 : List ByteArray) (u201002 : Value), Aside0 (spec_GetNode.j4 kq l0 t196 l0 x193001_31 x193002_31 y199 x201001_13 x201002_31 = some (r1, r2, r3, r4, r5)) ∧ Aside0 (kq ≤ kj13) ∧ Aside0 (Kd.R Kd.string 9 wc w.heap.size (fun k_ => some k_ ≠ (u201002 : Value).ownBlock) u201001 x201001_13) ∧ Aside0 (Kd.R Kd.string 9 wc w.heap.size (fun k_ => some k_ ≠ (u201001 : Value).ownBlock) u201002 x201002_31) ∧ Aside0 (wc.heap[gb191]? = some (.cells #[.bool false, (.slice none 0 0), (.slice none 0 0), (.slice none 0 0)] 29 (0, 0))) ∧ Aside0 (wc.heap[gb200]? = some (.cells #[.bool y199, u201001, u201002, (.slice none 0 0)] 29 (0, 0))) ∧ Aside0 (J98 w wc gb192 l0 x193001_31 x193002_31) ∧ Aside0 (Below w.heap.size w wc))
     case first =>
      have H := HC32.out
      clear HC32
      have H' := aM_ H
      clear H
      go_wp2
      (try simp only [Act.put, sI_, sS_, sZ_])
      go_loopg [10] kj13 (fun kq v10 w' => ∃ (x10_3 : Int) (x193001_3 : Int) (x193002_3 : Bool) (x201002_3 : List ByteArray) (u201002 : Value), v10 = .int .i64 x10_3 ∧ Aside0 (spec_GetNode.l1 kq l0 t196 x10_3 l0 x193001_3 x193002_3 y199 x201001_13 x201002_3 = some (r1, r2, r3, r4, r5)) ∧ Aside0 (kq ≤ kj13) ∧ Aside0 (Kd.R Kd.string 9 w' w.heap.size (fun k_ => some k_ ≠ (u201002 : Value).ownBlock) u201001 x201001_13) ∧ Aside0 (Kd.R Kd.string 9 w' w.heap.size (fun k_ => some k_ ≠ (u201001 : Value).ownBlock) u201002 x201002_3) ∧ Aside0 (w'.heap[gb191]? = some (.cells #[.bool false, (.slice none 0 0), (.slice none 0 0), (.slice none 0 0)] 29 (0, 0))) ∧ Aside0 (w'.heap[gb200]? = some (.cells #[.bool y199, u201001, u201002, (.slice none 0 0)] 29 (0, 0))) ∧ Aside0 (J98 w w' gb192 l0 x193001_3 x193002_3) ∧ Aside0 (Below w.heap.size w w'))
      case atStart => exact ⟨(0), (x193001_13), (x193002_13), (([] : List ByteArray)), (.slice none 0 0), (by first | rfl | (simp; done) | (simp [*]; done)), H', ⟨Nat.le_refl _⟩, ⟨by (with_reducible repeat (first | apply rA_ | apply rN_ | apply rD_)); exact Kd.R_mono HO_201001.out (fun _ hk => (by simp [Value.ownBlock]))⟩, ⟨by first | exact Kd.R_nil _ _ _ _ _ | exact Kd.N_nil _ _ _ _ _ | exact Kd.V_nil _ _ _ _ _ | exact Kd.Q_nil _ _ _ _ _ | exact Kd.S_nil _ _ _ _ _⟩, ⟨by (with_reducible repeat (first | refine kN_ ?_ _ | refine kD_ ?_ | refine kA_ ?_ _)); exact BK191.out⟩, ⟨by (with_reducible repeat (first | refine kN_ ?_ _ | refine kD_ ?_ | refine kA_ ?_ _)); exact BK200.out⟩, ⟨by repeat (first | (with_reducible first | exact HI192.out | apply J98.alloc | apply J98.drewN | apply J98.drew | apply J98.set_1 | apply J98.set_2 | refine J98.far ?_ NB192_191.out _ | refine J98.far ?_ NB192_200.out _) | exact HI192.out)⟩, ⟨by repeat (first | (with_reducible first | exact HB.out | apply bA_ | apply bN_ | apply bD_ | refine bE_ ?_ (J98.ge HI192.out) | refine bE_ ?_ GE191.out | refine bE_ ?_ GE200.out) | exact HB.out)⟩⟩
      case round =>
       clear H'
       try clear c1
       try clear c2
       try clear p2
       try clear c4
       try clear c4b0
       try clear p6
       try clear c7
       try clear c9
       try clear c11
       try clear c11b0
       try clear c16
       try clear c17
       try clear c19
       try clear c19b0
       try clear c20
       try clear c21
       try clear c23
       try clear c23b0
       try clear c26
       try clear c27
       try clear hcz10_0
       try clear hcz10_1
       try clear hcz10_2
       try clear hcz12_0
       try clear hcz12_1
       try clear hcz12_2
       try clear hcz13_0
       try clear hcz13_1
       try clear hcz13_2
       try clear hcz18_0
       try clear hcz18_1
       try clear hcz18_2
       try clear hcz18_3
       try clear hcz21_0
       try clear hcz21_1
       try clear hcz21_2
       try clear hcz24_0
       try clear hcz24_1
       try clear hcz24_2
       try clear hcz28_0
       try clear hcz28_1
       try clear hcz28_2
       try clear hcz28_3
       try clear hcz31_0
       try clear hcz31_1
       try clear hcz31_2
       try clear hcz31_3
       try clear hfz10_1
       try clear hfz10_2
       try clear hfz12_1
       try clear hfz12_2
       try clear hfz13_1
       try clear hfz13_2
       try clear hfz18_0
       try clear hfz18_1
       try clear hfz18_2
       try clear hfz18_3
       try clear hfz21_1
       try clear hfz21_2
       try clear hfz24_1
       try clear hfz24_2
       try clear hfz28_0
       try clear hfz28_1
       try clear hfz28_2
       try clear hfz28_3
       try clear hfz31_0
       try clear hfz31_1
       try clear hfz31_2
       try clear hfz31_3
       try clear p2
       try clear p6
       obtain ⟨x10_3, x193001_3, x193002_3, x201002_3, u201002, rfl, HA, HK3, HO_201001, HO_201002, BK191, BK200, HI192, HB⟩ := hrel
       cases gk with
       | zero => exact absurd HA.out (by simp [spec_GetNode.l1])
       | succ k3 =>
        have H := HA.out
        clear HA
        simp only [spec_GetNode.l1] at H
        by_cases c33 : x10_3 < t196
        ·rw [if_pos c33] at H
         have c33b0 : decide (x10_3 < t196) = true := decide_eq_true c33
         clear c33
         (first | rw [c33b0] | (simp only [i64_w, i32_w]; rw [c33b0]) | skip)
         by_cases c34 : x193002_3 = true
         ·subst c34
          have H1 : (spec_GetNode.j4 k3 l0 t196 l0 x193001_3 true y199 x201001_13 x201002_3) = some (r1, r2, r3, r4, r5) := by rw [if_pos rfl] at H; exact H
          clear H
          have H := H1
          clear H1
          have H' := aM_ H
          clear H
          obtain ⟨ASz35_0, cSz35_0, HGz35, hgz35, HSz35_0, HLnz35_0⟩ := HI192.out
          have hcz35_0 := cellS98_0 HGz35
          have hcz35_1 := cellS98_1 HGz35
          have hcz35_2 := cellS98_2 HGz35
          have hfz35_1 := kF_ HGz35 1
          have hfz35_2 := kF_ HGz35 2
          clear HGz35 hgz35
          go_wp2
          (first | go_meet | (refine Met.intro ?_; go_step; (repeat apply Exists.intro); refine ⟨?rel, ?eq⟩; (case eq => (try simp only [c19b0]); (try simp only [c19b0]); (try simp only [c33b0]); rfl)))
          case rel => exact ⟨_, (x193001_3), (true), (x201002_3), (u201002), H', ⟨by have := HJ3.out; have := HJ13.out; have := HK3.out; first | omega | exact Nat.le_refl _⟩, ⟨by (with_reducible repeat (first | apply rA_ | apply rN_ | apply rD_)); exact HO_201001.out⟩, ⟨by (with_reducible repeat (first | apply rA_ | apply rN_ | apply rD_)); exact HO_201002.out⟩, ⟨by (with_reducible repeat (first | refine kN_ ?_ _ | refine kD_ ?_ | refine kA_ ?_ _)); exact BK191.out⟩, ⟨by (with_reducible repeat (first | refine kN_ ?_ _ | refine kD_ ?_ | refine kA_ ?_ _)); exact BK200.out⟩, ⟨by repeat (first | (with_reducible first | exact HI192.out | apply J98.alloc | apply J98.drewN | apply J98.drew | apply J98.set_1 | apply J98.set_2 | refine J98.far ?_ NB192_191.out _ | refine J98.far ?_ NB192_200.out _) | exact HI192.out)⟩, ⟨by repeat (first | (with_reducible first | exact HB.out | apply bA_ | apply bN_ | apply bD_ | refine bE_ ?_ (J98.ge HI192.out) | refine bE_ ?_ GE191.out | refine bE_ ?_ GE200.out) | exact HB.out)⟩⟩
         ·replace c34 := Bool.eq_false_iff.mpr c34
          subst c34
          have H1 : (if y199 = true then ((spec_l14Text.f k3 l0 x193001_3 false).bind fun bt207 => (if x201002_3.length < 8796093022208 then (spec_GetNode.l1 k3 l0 t196 (wrap64 (x10_3 + 1)) l0 bt207.2.1 bt207.2.2 y199 x201001_13 (x201002_3 ++ [bt207.1])) else (none))) else (spec_GetNode.j4 k3 l0 t196 l0 x193001_3 false y199 x201001_13 x201002_3)) = some (r1, r2, r3, r4, r5) := by rw [if_neg (show ¬ (false = true) by decide)] at H; exact H
          clear H
          have H := H1
          clear H1
          by_cases c36 : y199 = true
          ·subst c36
           have H1 : ((spec_l14Text.f k3 l0 x193001_3 false).bind fun bt207 => (if x201002_3.length < 8796093022208 then (spec_GetNode.l1 k3 l0 t196 (wrap64 (x10_3 + 1)) l0 bt207.2.1 bt207.2.2 true x201001_13 (x201002_3 ++ [bt207.1])) else (none))) = some (r1, r2, r3, r4, r5) := by rw [if_pos rfl] at H; exact H
           clear H
           have H := H1
           clear H1
           replace H := oB_ H
           obtain ⟨⟨t207, t208, t209⟩, A370, H⟩ := H
           replace H : (if x201002_3.length < 8796093022208 then (spec_GetNode.l1 k3 l0 t196 (wrap64 (x10_3 + 1)) l0 t208 t209 true x201001_13 (x201002_3 ++ [t207])) else (none)) = some (r1, r2, r3, r4, r5) := H
           have A37 := aM_ A370
           clear A370
           by_cases c38 : x201002_3.length < 8796093022208
           ·rw [if_pos c38] at H
            have LMc38 := aM_ c38
            clear c38
            obtain ⟨y210, hy210⟩ : ∃ y_ : List ByteArray, y_ = (x201002_3 ++ [t207]) := ⟨_, rfl⟩
            replace H : (spec_GetNode.l1 k3 l0 t196 (wrap64 (x10_3 + 1)) l0 t208 t209 true x201001_13 y210) = some (r1, r2, r3, r4, r5) := by first | (rw [hy210]; with_reducible exact H) | (have H2_ := (Option.bind_some _ _).symm.trans H; rw [hy210]; with_reducible exact H2_) | (have H2_ := (Option.bind_some _ _).symm.trans H; with_reducible exact H2_) | with_reducible exact H | (rw [hy210]; exact H) | exact H
            have Ny210 := aM_ hy210
            clear hy210
            have H' := aM_ H
            clear H
            obtain ⟨ASz39_0, cSz39_0, HGz39, hgz39, HSz39_0, HLnz39_0⟩ := HI192.out
            have hcz39_0 := cellS98_0 HGz39
            have hcz39_1 := cellS98_1 HGz39
            have hcz39_2 := cellS98_2 HGz39
            have hfz39_1 := kF_ HGz39 1
            have hfz39_2 := kF_ HGz39 2
            clear HGz39 hgz39
            have hnb40 := NB200_191.out
            have hnc40 := NB191_200.out
            have hnb41 := NB200_192.out
            have hnc41 := NB192_200.out
            have hcz42_0 : wr.cell? ⟨gb200, 0, none⟩ = some (.bool true) := (kC_ BK200.out 0).trans rfl
            have hcz42_1 : wr.cell? ⟨gb200, 1, none⟩ = some (u201001) := (kC_ BK200.out 1).trans rfl
            have hcz42_2 : wr.cell? ⟨gb200, 2, none⟩ = some (u201002) := (kC_ BK200.out 2).trans rfl
            have hcz42_3 : wr.cell? ⟨gb200, 3, none⟩ = some (.slice none 0 0) := (kC_ BK200.out 3).trans rfl
            have hfz42_0 := kF_ BK200.out 0
            have hfz42_1 := kF_ BK200.out 1
            have hfz42_2 := kF_ BK200.out 2
            have hfz42_3 := kF_ BK200.out 3
            go_wp2_with (first | ((with_reducible refine gate_callee (f := 77) rfl ?_); refine goesL_ (some 78) rfl rfl Try.func77 (by kernel_rfl) rfl #[.pointer (some ⟨gb192, 0, none⟩)] rfl (by (try simp only [mA_, mC_, mN_]); first | done | rfl | (simp only [lD_, lT_]; rfl)) ?_; (with_reducible refine (spec_l14Text.calls k3 gb192 l0 x193001_3 false t207 t208 t209 w _ ?side1 ?side2 A37.out).mono ?_); (case side1 => repeat (first | (with_reducible first | exact HI192.out | apply J98.alloc | apply J98.drewN | apply J98.drew | apply J98.set_1 | apply J98.set_2 | refine J98.far ?_ NB192_191.out _ | refine J98.far ?_ NB192_200.out _) | exact HI192.out)); (case side2 => repeat (first | (with_reducible first | exact HB.out | apply bA_ | apply bN_ | apply bD_ | refine bE_ ?_ (J98.ge HI192.out) | refine bE_ ?_ GE191.out | refine bE_ ?_ GE200.out) | exact HB.out)); rintro e w43 ⟨rfl, hi, hb, hk⟩; refine ⟨_, rfl, ?_⟩; have n0_ := aM_ (Kd.R_mono (Kd.R_keep (J98.apart (show J98 w _ gb192 l0 x193001_3 false from by repeat (first | (with_reducible first | exact HI192.out | apply J98.alloc | apply J98.drewN | apply J98.drew | apply J98.set_1 | apply J98.set_2 | refine J98.far ?_ NB192_191.out _ | refine J98.far ?_ NB192_200.out _) | exact HI192.out)) (by (with_reducible repeat (first | apply rA_ | apply rN_ | apply rD_)); exact HO_201001.out) (by decide)) hk (fun _ h => h.2)) (fun _ h => h.1)); have n1_ := aM_ (Kd.R_mono (Kd.R_keep (J98.apart (show J98 w _ gb192 l0 x193001_3 false from by repeat (first | (with_reducible first | exact HI192.out | apply J98.alloc | apply J98.drewN | apply J98.drew | apply J98.set_1 | apply J98.set_2 | refine J98.far ?_ NB192_191.out _ | refine J98.far ?_ NB192_200.out _) | exact HI192.out)) (by (with_reducible repeat (first | apply rA_ | apply rN_ | apply rD_)); exact HO_201002.out) (by decide)) hk (fun _ h => h.2)) (fun _ h => h.1)); have n2_ := aM_ (KeepBut.blk hk (g' := gb191) (o := .cells #[.bool false, .slice none 0 0, .slice none 0 0, .slice none 0 0] 29 (0, 0)) (by (with_reducible repeat (first | refine kN_ ?_ _ | refine kD_ ?_ | refine kA_ ?_ _)); exact BK191.out) NB191_192.out (by simp)); have n3_ := aM_ (KeepBut.blk hk (g' := gb200) (o := .cells #[.bool true, u201001, u201002, .slice none 0 0] 29 (0, 0)) (by (with_reducible repeat (first | refine kN_ ?_ _ | refine kD_ ?_ | refine kA_ ?_ _)); exact BK200.out) NB200_192.out (by simp)); have n4_ := aM_ (hb); have n5_ := aM_ (hi); clear HO_201001; clear HO_201002; clear BK191; clear BK200; clear HB; clear HI192; have HO_201001 := n0_; have HO_201002 := n1_; have BK191 := n2_; have BK200 := n3_; have HB := n4_; have HI192 := n5_; clear n0_ n1_ n2_ n3_ n4_ n5_; (try clear hb); (try clear hb2); (try clear hk); (try clear hi); have hcz44_0 : w43.cell? ⟨gb200, 0, none⟩ = some (.bool true) := (kC_ BK200.out 0).trans rfl; have hcz44_1 : w43.cell? ⟨gb200, 1, none⟩ = some (u201001) := (kC_ BK200.out 1).trans rfl; have hcz44_2 : w43.cell? ⟨gb200, 2, none⟩ = some (u201002) := (kC_ BK200.out 2).trans rfl; have hcz44_3 : w43.cell? ⟨gb200, 3, none⟩ = some (.slice none 0 0) := (kC_ BK200.out 3).trans rfl; have hfz44_0 := kF_ BK200.out 0; have hfz44_1 := kF_ BK200.out 1; have hfz44_2 := kF_ BK200.out 2; have hfz44_3 := kF_ BK200.out 3) | ((with_reducible refine gate_builtin (b := .append) (xs := #[.tmp 80, .tmp 82]) rfl ?_); (try (refine gate_guard (by rfl) ?_; dsimp only)); at_builtin; refine Kd.R_append Kd.string (w0 := w) w.heap.size rfl (.tmp 80) (.tmp 82) 22 9 (.string ⟨#[]⟩) 16 rfl Try.underlying22 info9 rfl (by decide) (by omega) u201002 x201002_3 t207 [.string t207] (fun k_ => some k_ ≠ (u201001 : Value).ownBlock) (fun _ => False) rfl rfl ?aP (fun _ hk => hk.elim) ?aF ?aO ?aB ?aS ?aL ?_; (case aP => exact rfl); (case aB => exact (by repeat (first | (with_reducible first | exact HB.out | apply bA_ | apply bN_ | apply bD_ | refine bE_ ?_ (J98.ge HI192.out) | refine bE_ ?_ GE191.out | refine bE_ ?_ GE200.out) | exact HB.out))); (case aF => exact (fun k_ hk => Kd.fresh' (Kd.R_lt (by (with_reducible repeat (first | apply rA_ | apply rN_ | apply rD_)); exact HO_201001.out)) k_ hk)); (case aO => exact (by (with_reducible repeat (first | apply rA_ | apply rN_ | apply rD_)); exact HO_201002.out)); (case aS => exact (bS_ (by repeat (first | (with_reducible first | exact HB.out | apply bA_ | apply bN_ | apply bD_ | refine bE_ ?_ (J98.ge HI192.out) | refine bE_ ?_ GE191.out | refine bE_ ?_ GE200.out) | exact HB.out)))); (case aL => have := LMc38.out; omega); intro v211 w45 ho hb hg hat; rw [← Ny210.out] at ho; have n0_ := aM_ (Kd.R_after (ok := (fun _ => True)) (by (with_reducible repeat (first | apply rA_ | apply rN_ | apply rD_)); exact Kd.R_mono HO_201001.out (fun _ hk => ⟨trivial, hk⟩)) hg hat); have n1_ := aM_ (blk_grown (g := gb191) (o := .cells #[.bool false, .slice none 0 0, .slice none 0 0, .slice none 0 0] 29 (0, 0)) (by (with_reducible repeat (first | refine kN_ ?_ _ | refine kD_ ?_ | refine kA_ ?_ _)); exact BK191.out) hg (Kd.R_ne HO_201002.out BK191.out (by decide))); have n2_ := aM_ (blk_grown (g := gb200) (o := .cells #[.bool true, u201001, u201002, .slice none 0 0] 29 (0, 0)) (by (with_reducible repeat (first | refine kN_ ?_ _ | refine kD_ ?_ | refine kA_ ?_ _)); exact BK200.out) hg (Kd.R_ne HO_201002.out BK200.out (by decide))); have n3_ := aM_ (J98.grown (by repeat (first | (with_reducible first | exact HI192.out | apply J98.alloc | apply J98.drewN | apply J98.drew | apply J98.set_1 | apply J98.set_2 | refine J98.far ?_ NB192_191.out _ | refine J98.far ?_ NB192_200.out _) | exact HI192.out)) hg (J98.own_ne HI192.out HO_201002.out (by decide))); have n4_ := aM_ (hb); have n5_ := aM_ (ho); clear HO_201001; clear BK191; clear BK200; clear HI192; clear HB; clear HO_201002; have HO_201001 := n0_; have BK191 := n1_; have BK200 := n2_; have HI192 := n3_; have HB := n4_; have HO212 := n5_; clear n0_ n1_ n2_ n3_ n4_ n5_; clear ho hb hg hat; obtain ⟨Ao46, co46, eo46⟩ := Kd.R_slice HO212.out; subst eo46; have hcz47_0 : w45.cell? ⟨gb200, 0, none⟩ = some (.bool true) := (kC_ BK200.out 0).trans rfl; have hcz47_1 : w45.cell? ⟨gb200, 1, none⟩ = some (u201001) := (kC_ BK200.out 1).trans rfl; have hcz47_2 : w45.cell? ⟨gb200, 2, none⟩ = some (u201002) := (kC_ BK200.out 2).trans rfl; have hcz47_3 : w45.cell? ⟨gb200, 3, none⟩ = some (.slice none 0 0) := (kC_ BK200.out 3).trans rfl; have hfz47_0 := kF_ BK200.out 0; have hfz47_1 := kF_ BK200.out 1; have hfz47_2 := kF_ BK200.out 2; have hfz47_3 := kF_ BK200.out 3))
            go_roundg k3
            case measure => have := HJ3.out; have := HJ13.out; have := HK3.out; omega
            case rel => exact ⟨(wrap64 (x10_3 + 1)), (t208), (t209), (y210), (.slice Ao46 y210.length co46), (by first | rfl | (simp; done) | (simp [*]; done)), H', ⟨by have := HJ3.out; have := HJ13.out; have := HK3.out; omega⟩, ⟨by (with_reducible repeat (first | apply rA_ | apply rN_ | apply rD_)); exact Kd.R_mono (Kd.R_far (p := ⟨gb200, 2, none⟩) (Kd.R_types HO_201001.out BK200.out (by decide)) (fun _ hk => hk.2) (.slice Ao46 y210.length co46)) (fun _ hk => hk.1.2)⟩, ⟨by (with_reducible repeat (first | apply rA_ | apply rN_ | apply rD_)); exact Kd.R_mono (Kd.R_far (p := ⟨gb200, 2, none⟩) (Kd.R_types HO212.out BK200.out (by decide)) (fun _ hk => hk.2) (.slice Ao46 y210.length co46)) (fun _ hk => hk.1)⟩, ⟨by (with_reducible repeat (first | refine kN_ ?_ _ | refine kD_ ?_ | refine kA_ ?_ _)); refine blk_far ?_ NB191_200.out _; (with_reducible repeat (first | refine kN_ ?_ _ | refine kD_ ?_ | refine kA_ ?_ _)); exact BK191.out⟩, ⟨by (with_reducible repeat (first | refine kN_ ?_ _ | refine kD_ ?_ | refine kA_ ?_ _)); refine kP_ (cs := #[.bool true, u201001, u201002, .slice none 0 0]) ?_ 2 _ rfl; (with_reducible repeat (first | refine kN_ ?_ _ | refine kD_ ?_ | refine kA_ ?_ _)); exact BK200.out⟩, ⟨by repeat (first | (with_reducible first | exact HI192.out | apply J98.alloc | apply J98.drewN | apply J98.drew | apply J98.set_1 | apply J98.set_2 | refine J98.far ?_ NB192_191.out _ | refine J98.far ?_ NB192_200.out _) | exact HI192.out)⟩, ⟨by repeat (first | (with_reducible first | exact HB.out | apply bA_ | apply bN_ | apply bD_ | refine bE_ ?_ (J98.ge HI192.out) | refine bE_ ?_ GE191.out | refine bE_ ?_ GE200.out) | exact HB.out)⟩⟩
           ·rw [if_neg c38] at H
            exact absurd H (by simp)
          ·replace c36 := Bool.eq_false_iff.mpr c36
           subst c36
           have H1 : (spec_GetNode.j4 k3 l0 t196 l0 x193001_3 false false x201001_13 x201002_3) = some (r1, r2, r3, r4, r5) := by rw [if_neg (show ¬ (false = true) by decide)] at H; exact H
           clear H
           have H := H1
           clear H1
           have H' := aM_ H
           clear H
           obtain ⟨ASz48_0, cSz48_0, HGz48, hgz48, HSz48_0, HLnz48_0⟩ := HI192.out
           have hcz48_0 := cellS98_0 HGz48
           have hcz48_1 := cellS98_1 HGz48
           have hcz48_2 := cellS98_2 HGz48
           have hfz48_1 := kF_ HGz48 1
           have hfz48_2 := kF_ HGz48 2
           clear HGz48 hgz48
           have hnb49 := NB200_191.out
           have hnc49 := NB191_200.out
           have hnb50 := NB200_192.out
           have hnc50 := NB192_200.out
           have hcz51_0 : wr.cell? ⟨gb200, 0, none⟩ = some (.bool false) := (kC_ BK200.out 0).trans rfl
           have hcz51_1 : wr.cell? ⟨gb200, 1, none⟩ = some (u201001) := (kC_ BK200.out 1).trans rfl
           have hcz51_2 : wr.cell? ⟨gb200, 2, none⟩ = some (u201002) := (kC_ BK200.out 2).trans rfl
           have hcz51_3 : wr.cell? ⟨gb200, 3, none⟩ = some (.slice none 0 0) := (kC_ BK200.out 3).trans rfl
           have hfz51_0 := kF_ BK200.out 0
           have hfz51_1 := kF_ BK200.out 1
           have hfz51_2 := kF_ BK200.out 2
           have hfz51_3 := kF_ BK200.out 3
           go_wp2
           (first | go_meet | (refine Met.intro ?_; go_step; (repeat apply Exists.intro); refine ⟨?rel, ?eq⟩; (case eq => (try simp only [c19b0]); (try simp only [c19b0]); (try simp only [c33b0]); rfl)))
           case rel => exact ⟨_, (x193001_3), (false), (x201002_3), (u201002), H', ⟨by have := HJ3.out; have := HJ13.out; have := HK3.out; first | omega | exact Nat.le_refl _⟩, ⟨by (with_reducible repeat (first | apply rA_ | apply rN_ | apply rD_)); exact HO_201001.out⟩, ⟨by (with_reducible repeat (first | apply rA_ | apply rN_ | apply rD_)); exact HO_201002.out⟩, ⟨by (with_reducible repeat (first | refine kN_ ?_ _ | refine kD_ ?_ | refine kA_ ?_ _)); exact BK191.out⟩, ⟨by (with_reducible repeat (first | refine kN_ ?_ _ | refine kD_ ?_ | refine kA_ ?_ _)); exact BK200.out⟩, ⟨by repeat (first | (with_reducible first | exact HI192.out | apply J98.alloc | apply J98.drewN | apply J98.drew | apply J98.set_1 | apply J98.set_2 | refine J98.far ?_ NB192_191.out _ | refine J98.far ?_ NB192_200.out _) | exact HI192.out)⟩, ⟨by repeat (first | (with_reducible first | exact HB.out | apply bA_ | apply bN_ | apply bD_ | refine bE_ ?_ (J98.ge HI192.out) | refine bE_ ?_ GE191.out | refine bE_ ?_ GE200.out) | exact HB.out)⟩⟩
        ·rw [if_neg c33] at H
         have c33b0 : decide (x10_3 < t196) = false := decide_eq_false c33
         clear c33
         (first | rw [c33b0] | (simp only [i64_w, i32_w]; rw [c33b0]) | skip)
         have H' := aM_ H
         clear H
         go_wp2
         (first | go_meet | (refine Met.intro ?_; go_step; (repeat apply Exists.intro); refine ⟨?rel, ?eq⟩; (case eq => (try simp only [c19b0]); (try simp only [c33b0]); (try simp only [c33b0]); rfl)))
         case rel => exact ⟨_, (x193001_3), (x193002_3), (x201002_3), (u201002), H', ⟨by have := HJ3.out; have := HJ13.out; have := HK3.out; first | omega | exact Nat.le_refl _⟩, ⟨by (with_reducible repeat (first | apply rA_ | apply rN_ | apply rD_)); exact HO_201001.out⟩, ⟨by (with_reducible repeat (first | apply rA_ | apply rN_ | apply rD_)); exact HO_201002.out⟩, ⟨by (with_reducible repeat (first | refine kN_ ?_ _ | refine kD_ ?_ | refine kA_ ?_ _)); exact BK191.out⟩, ⟨by (with_reducible repeat (first | refine kN_ ?_ _ | refine kD_ ?_ | refine kA_ ?_ _)); exact BK200.out⟩, ⟨by repeat (first | (with_reducible first | exact HI192.out | apply J98.alloc | apply J98.drewN | apply J98.drew | apply J98.set_1 | apply J98.set_2 | refine J98.far ?_ NB192_191.out _ | refine J98.far ?_ NB192_200.out _) | exact HI192.out)⟩, ⟨by repeat (first | (with_reducible first | exact HB.out | apply bA_ | apply bN_ | apply bD_ | refine bE_ ?_ (J98.ge HI192.out) | refine bE_ ?_ GE191.out | refine bE_ ?_ GE200.out) | exact HB.out)⟩⟩
     case rest =>
      clear HC32
      try clear c1
      try clear c2
      try clear p2
      try clear c3
      try clear c4
      try clear c4b0
      try clear c5
      try clear p6
      try clear c7
      try clear c9
      try clear c11
      try clear c11b0
      try clear c16
      try clear c17
      try clear c19
      try clear c19b0
      try clear c20
      try clear c21
      try clear c23
      try clear c23b0
      try clear c26
      try clear c27
      try clear c33
      try clear c33b0
      try clear c34
      try clear c36
      try clear c38
      try clear c40
      try clear c41
      try clear c49
      try clear c50
      try clear hcz10_0
      try clear hcz10_1
      try clear hcz10_2
      try clear hcz12_0
      try clear hcz12_1
      try clear hcz12_2
      try clear hcz13_0
      try clear hcz13_1
      try clear hcz13_2
      try clear hcz18_0
      try clear hcz18_1
      try clear hcz18_2
      try clear hcz18_3
      try clear hcz21_0
      try clear hcz21_1
      try clear hcz21_2
      try clear hcz24_0
      try clear hcz24_1
      try clear hcz24_2
      try clear hcz28_0
      try clear hcz28_1
      try clear hcz28_2
      try clear hcz28_3
      try clear hcz31_0
      try clear hcz31_1
      try clear hcz31_2
      try clear hcz31_3
      try clear hcz35_0
      try clear hcz35_1
      try clear hcz35_2
      try clear hcz39_0
      try clear hcz39_1
      try clear hcz39_2
      try clear hcz42_0
      try clear hcz42_1
      try clear hcz42_2
      try clear hcz42_3
      try clear hcz44_0
      try clear hcz44_1
      try clear hcz44_2
      try clear hcz44_3
      try clear hcz47_0
      try clear hcz47_1
      try clear hcz47_2
      try clear hcz47_3
      try clear hcz48_0
      try clear hcz48_1
      try clear hcz48_2
      try clear hcz51_0
      try clear hcz51_1
      try clear hcz51_2
      try clear hcz51_3
      try clear hfz10_1
      try clear hfz10_2
      try clear hfz12_1
      try clear hfz12_2
      try clear hfz13_1
      try clear hfz13_2
      try clear hfz18_0
      try clear hfz18_1
      try clear hfz18_2
      try clear hfz18_3
      try clear hfz21_1
      try clear hfz21_2
      try clear hfz24_1
      try clear hfz24_2
      try clear hfz28_0
      try clear hfz28_1
      try clear hfz28_2
      try clear hfz28_3
      try clear hfz31_0
      try clear hfz31_1
      try clear hfz31_2
      try clear hfz31_3
      try clear hfz35_1
      try clear hfz35_2
      try clear hfz39_1
      try clear hfz39_2
      try clear hfz42_0
      try clear hfz42_1
      try clear hfz42_2
      try clear hfz42_3
      try clear hfz44_0
      try clear hfz44_1
      try clear hfz44_2
      try clear hfz44_3
      try clear hfz47_0
      try clear hfz47_1
      try clear hfz47_2
      try clear hfz47_3
      try clear hfz48_1
      try clear hfz48_2
      try clear hfz51_0
      try clear hfz51_1
      try clear hfz51_2
      try clear hfz51_3
      try clear p2
      try clear p6
      obtain ⟨kq, x193001_31, x193002_31, x201002_31, u201002, HA, HJ31, HO_201001, HO_201002, BK191, BK200, HI192, HB⟩ := hcut
      cases kq with
      | zero => exact absurd HA.out (by simp [spec_GetNode.j4])
      | succ kj31 =>
       have H := HA.out
       clear HA
       simp only [spec_GetNode.j4] at H
       have H' := aM_ H
       clear H
       go_wp2
       (try simp only [Act.put, sI_, sS_, sZ_])
       go_loopg [12] kj31 (fun kq v12 w' => ∃ (x12_4 : Int) (x193001_4 : Int) (x193002_4 : Bool) (x201003_4 : List Int) (u201003 : Value), v12 = .int .i64 x12_4 ∧ Aside0 (spec_GetNode.l2 kq l0 t196 x12_4 l0 x193001_4 x193002_4 y199 x201001_13 x201002_31 x201003_4 = some (r1, r2, r3, r4, r5)) ∧ Aside0 (kq ≤ kj31) ∧ Aside0 (Kd.R Kd.string 9 w' w.heap.size (fun k_ => some k_ ≠ (u201002 : Value).ownBlock) u201001 x201001_13) ∧ Aside0 (Kd.R Kd.string 9 w' w.heap.size (fun k_ => some k_ ≠ (u201001 : Value).ownBlock) u201002 x201002_31) ∧ Aside0 (Kd.R (Kd.int .i64) 3 w' w.heap.size (fun _ => True) u201003 x201003_4) ∧ Aside0 (w'.heap[gb191]? = some (.cells #[.bool false, (.slice none 0 0), (.slice none 0 0), (.slice none 0 0)] 29 (0, 0))) ∧ Aside0 (w'.heap[gb200]? = some (.cells #[.bool y199, u201001, u201002, u201003] 29 (0, 0))) ∧ Aside0 (J98 w w' gb192 l0 x193001_4 x193002_4) ∧ Aside0 (Below w.heap.size w w'))
       case atStart => exact ⟨(0), (x193001_31), (x193002_31), (([] : List Int)), (.slice none 0 0), (by first | rfl | (simp; done) | (simp [*]; done)), H', ⟨Nat.le_refl _⟩, ⟨by (with_reducible repeat (first | apply rA_ | apply rN_ | apply rD_)); exact HO_201001.out⟩, ⟨by (with_reducible repeat (first | apply rA_ | apply rN_ | apply rD_)); exact HO_201002.out⟩, ⟨by first | exact Kd.R_nil _ _ _ _ _ | exact Kd.N_nil _ _ _ _ _ | exact Kd.V_nil _ _ _ _ _ | exact Kd.Q_nil _ _ _ _ _ | exact Kd.S_nil _ _ _ _ _⟩, ⟨by (with_reducible repeat (first | refine kN_ ?_ _ | refine kD_ ?_ | refine kA_ ?_ _)); exact BK191.out⟩, ⟨by (with_reducible repeat (first | refine kN_ ?_ _ | refine kD_ ?_ | refine kA_ ?_ _)); exact BK200.out⟩, ⟨by repeat (first | (with_reducible first | exact HI192.out | apply J98.alloc | apply J98.drewN | apply J98.drew | apply J98.set_1 | apply J98.set_2 | refine J98.far ?_ NB192_191.out _ | refine J98.far ?_ NB192_200.out _) | exact HI192.out)⟩, ⟨by repeat (first | (with_reducible first | exact HB.out | apply bA_ | apply bN_ | apply bD_ | refine bE_ ?_ (J98.ge HI192.out) | refine bE_ ?_ GE191.out | refine bE_ ?_ GE200.out) | exact HB.out)⟩⟩
       case round =>
        clear H'
        try clear c1
        try clear c2
        try clear p2
        try clear c3
        try clear c4
        try clear c4b0
        try clear c5
        try clear p6
        try clear c7
        try clear c9
        try clear c11
        try clear c11b0
        try clear c16
        try clear c17
        try clear c19
        try clear c19b0
        try clear c20
        try clear c21
        try clear c23
        try clear c23b0
        try clear c26
        try clear c27
        try clear c33
        try clear c33b0
        try clear c34
        try clear c36
        try clear c38
        try clear c40
        try clear c41
        try clear c49
        try clear c50
        try clear hcz10_0
        try clear hcz10_1
        try clear hcz10_2
        try clear hcz12_0
        try clear hcz12_1
        try clear hcz12_2
        try clear hcz13_0
        try clear hcz13_1
        try clear hcz13_2
        try clear hcz18_0
        try clear hcz18_1
        try clear hcz18_2
        try clear hcz18_3
        try clear hcz21_0
        try clear hcz21_1
        try clear hcz21_2
        try clear hcz24_0
        try clear hcz24_1
        try clear hcz24_2
        try clear hcz28_0
        try clear hcz28_1
        try clear hcz28_2
        try clear hcz28_3
        try clear hcz31_0
        try clear hcz31_1
        try clear hcz31_2
        try clear hcz31_3
        try clear hcz35_0
        try clear hcz35_1
        try clear hcz35_2
        try clear hcz39_0
        try clear hcz39_1
        try clear hcz39_2
        try clear hcz42_0
        try clear hcz42_1
        try clear hcz42_2
        try clear hcz42_3
        try clear hcz44_0
        try clear hcz44_1
        try clear hcz44_2
        try clear hcz44_3
        try clear hcz47_0
        try clear hcz47_1
        try clear hcz47_2
        try clear hcz47_3
        try clear hcz48_0
        try clear hcz48_1
        try clear hcz48_2
        try clear hcz51_0
        try clear hcz51_1
        try clear hcz51_2
        try clear hcz51_3
        try clear hfz10_1
        try clear hfz10_2
        try clear hfz12_1
        try clear hfz12_2
        try clear hfz13_1
        try clear hfz13_2
        try clear hfz18_0
        try clear hfz18_1
        try clear hfz18_2
        try clear hfz18_3
        try clear hfz21_1
        try clear hfz21_2
        try clear hfz24_1
        try clear hfz24_2
        try clear hfz28_0
        try clear hfz28_1
        try clear hfz28_2
        try clear hfz28_3
        try clear hfz31_0
        try clear hfz31_1
        try clear hfz31_2
        try clear hfz31_3
        try clear hfz35_1
        try clear hfz35_2
        try clear hfz39_1
        try clear hfz39_2
        try clear hfz42_0
        try clear hfz42_1
        try clear hfz42_2
        try clear hfz42_3
        try clear hfz44_0
        try clear hfz44_1
        try clear hfz44_2
        try clear hfz44_3
        try clear hfz47_0
        try clear hfz47_1
        try clear hfz47_2
        try clear hfz47_3
        try clear hfz48_1
        try clear hfz48_2
        try clear hfz51_0
        try clear hfz51_1
        try clear hfz51_2
        try clear hfz51_3
        try clear p2
        try clear p6
        obtain ⟨x12_4, x193001_4, x193002_4, x201003_4, u201003, rfl, HA, HK4, HO_201001, HO_201002, HO_201003, BK191, BK200, HI192, HB⟩ := hrel
        cases gk with
        | zero => exact absurd HA.out (by simp [spec_GetNode.l2])
        | succ k4 =>
         have H := HA.out
         clear HA
         simp only [spec_GetNode.l2] at H
         by_cases c52 : x12_4 ≤ t196
         ·rw [if_pos c52] at H
          have c52b0 : decide (x12_4 ≤ t196) = true := decide_eq_true c52
          clear c52
          by_cases c53 : x193002_4 = true
          ·subst c53
           have H1 : (some (false, ([] : List ByteArray), ([] : List ByteArray), ([] : List Int), false)) = some (r1, r2, r3, r4, r5) := by rw [if_pos rfl] at H; exact H
           clear H
           have H := H1
           clear H1
           simp only [Option.some.injEq, Prod.mk.injEq] at H
           obtain ⟨rfl, rfl, rfl, rfl, rfl⟩ := H
           obtain ⟨ASz54_0, cSz54_0, HGz54, hgz54, HSz54_0, HLnz54_0⟩ := HI192.out
           have hcz54_0 := cellS98_0 HGz54
           have hcz54_1 := cellS98_1 HGz54
           have hcz54_2 := cellS98_2 HGz54
           have hfz54_1 := kF_ HGz54 1
           have hfz54_2 := kF_ HGz54 2
           clear HGz54 hgz54
           have hnb55 := NB191_200.out
           have hnc55 := NB200_191.out
           have hnb56 := NB191_192.out
           have hnc56 := NB192_191.out
           have hcz57_0 : wr.cell? ⟨gb191, 0, none⟩ = some (.bool false) := (kC_ BK191.out 0).trans rfl
           have hcz57_1 : wr.cell? ⟨gb191, 1, none⟩ = some (.slice none 0 0) := (kC_ BK191.out 1).trans rfl
           have hcz57_2 : wr.cell? ⟨gb191, 2, none⟩ = some (.slice none 0 0) := (kC_ BK191.out 2).trans rfl
           have hcz57_3 : wr.cell? ⟨gb191, 3, none⟩ = some (.slice none 0 0) := (kC_ BK191.out 3).trans rfl
           have hfz57_0 := kF_ BK191.out 0
           have hfz57_1 := kF_ BK191.out 1
           have hfz57_2 := kF_ BK191.out 2
           have hfz57_3 := kF_ BK191.out 3
           go_wp2
           refine bodyPost_ret (results_ct rfl _ _ gb191 29 #[.bool false, .slice none 0 0, .slice none 0 0, .slice none 0 0] (0, 0) _ rfl (by (with_reducible repeat (first | refine kN_ ?_ _ | refine kD_ ?_ | refine kA_ ?_ _)); refine kP_ (cs := #[.bool false, .slice none 0 0, .slice none 0 0, .slice none 0 0]) ?_ 3 _ rfl; (with_reducible repeat (first | refine kN_ ?_ _ | refine kD_ ?_ | refine kA_ ?_ _)); refine kP_ (cs := #[.bool false, .slice none 0 0, .slice none 0 0, .slice none 0 0]) ?_ 2 _ rfl; (with_reducible repeat (first | refine kN_ ?_ _ | refine kD_ ?_ | refine kA_ ?_ _)); refine kP_ (cs := #[.bool false, .slice none 0 0, .slice none 0 0, .slice none 0 0]) ?_ 1 _ rfl; (with_reducible repeat (first | refine kN_ ?_ _ | refine kD_ ?_ | refine kA_ ?_ _)); refine kP_ (cs := #[.bool false, .slice none 0 0, .slice none 0 0, .slice none 0 0]) ?_ 0 _ rfl; (with_reducible repeat (first | refine kN_ ?_ _ | refine kD_ ?_ | refine kA_ ?_ _)); exact BK191.out) Try.underlying29 rfl (by kernel_rfl)) rfl ?_
           exact ⟨_, _, _, by first | rfl | (simp [errW_none, errW_some] <;> rfl) | (simp [*, errW_none, errW_some] <;> rfl), by first | exact Kd.R_nil _ _ _ _ _ | exact Kd.N_nil _ _ _ _ _ | exact Kd.V_nil _ _ _ _ _ | exact Kd.Q_nil _ _ _ _ _ | exact Kd.S_nil _ _ _ _ _, by first | exact Kd.R_nil _ _ _ _ _ | exact Kd.N_nil _ _ _ _ _ | exact Kd.V_nil _ _ _ _ _ | exact Kd.Q_nil _ _ _ _ _ | exact Kd.S_nil _ _ _ _ _, by first | exact Kd.R_nil _ _ _ _ _ | exact Kd.N_nil _ _ _ _ _ | exact Kd.V_nil _ _ _ _ _ | exact Kd.Q_nil _ _ _ _ _ | exact Kd.S_nil _ _ _ _ _, by repeat (first | (with_reducible first | exact HB.out | apply bA_ | apply bN_ | apply bD_ | refine bE_ ?_ (J98.ge HI192.out) | refine bE_ ?_ GE191.out | refine bE_ ?_ GE200.out) | exact HB.out)⟩
          ·replace c53 := Bool.eq_false_iff.mpr c53
           subst c53
           have H1 : (if y199 = true then (if x193001_4 = (l0.length : Int) then ((spec_NodeOk.f k4 y199 x201001_13 x201002_31 x201003_4).bind fun t213 => (if t213 = true then (some (y199, x201001_13, x201002_31, x201003_4, true)) else (some (false, ([] : List ByteArray), ([] : List ByteArray), ([] : List Int), false)))) else (some (false, ([] : List ByteArray), ([] : List ByteArray), ([] : List Int), false))) else ((spec_l14Num.f k4 l0 x193001_4 false).bind fun bt214 => (if x201003_4.length < 17592186044416 then (spec_GetNode.l2 k4 l0 t196 (wrap64 (x12_4 + 1)) l0 bt214.2.1 bt214.2.2 y199 x201001_13 x201002_31 (x201003_4 ++ [bt214.1])) else (none)))) = some (r1, r2, r3, r4, r5) := by rw [if_neg (show ¬ (false = true) by decide)] at H; exact H
           clear H
           have H := H1
           clear H1
           by_cases c58 : y199 = true
           ·subst c58
            have H1 : (if x193001_4 = (l0.length : Int) then ((spec_NodeOk.f k4 true x201001_13 x201002_31 x201003_4).bind fun t213 => (if t213 = true then (some (true, x201001_13, x201002_31, x201003_4, true)) else (some (false, ([] : List ByteArray), ([] : List ByteArray), ([] : List Int), false)))) else (some (false, ([] : List ByteArray), ([] : List ByteArray), ([] : List Int), false))) = some (r1, r2, r3, r4, r5) := by rw [if_pos rfl] at H; exact H
            clear H
            have H := H1
            clear H1
            by_cases c59 : x193001_4 = (l0.length : Int)
            ·rw [if_pos c59] at H
             have c59b0 : (x193001_4 == (l0.length : Int)) = true := beq_iff_eq.mpr c59
             have c59b1 : (x193001_4 != (l0.length : Int)) = false := bne_eq_false_iff_eq.mpr c59
             clear c59
             replace H := oB_ H
             obtain ⟨t213, A600, H⟩ := H
             replace H : (if t213 = true then (some (true, x201001_13, x201002_31, x201003_4, true)) else (some (false, ([] : List ByteArray), ([] : List ByteArray), ([] : List Int), false))) = some (r1, r2, r3, r4, r5) := H
             have A60 := aM_ A600
             clear A600
             by_cases c61 : t213 = true
             ·subst c61
              have H1 : (some (true, x201001_13, x201002_31, x201003_4, true)) = some (r1, r2, r3, r4, r5) := by rw [if_pos rfl] at H; exact H
              clear H
              have H := H1
              clear H1
              simp only [Option.some.injEq, Prod.mk.injEq] at H
              obtain ⟨rfl, rfl, rfl, rfl, rfl⟩ := H
              obtain ⟨ASz62_0, cSz62_0, HGz62, hgz62, HSz62_0, HLnz62_0⟩ := HI192.out
              have hcz62_0 := cellS98_0 HGz62
              have hcz62_1 := cellS98_1 HGz62
              have hcz62_2 := cellS98_2 HGz62
              have hfz62_1 := kF_ HGz62 1
              have hfz62_2 := kF_ HGz62 2
              clear HGz62 hgz62
              have hnb63 := NB200_191.out
              have hnc63 := NB191_200.out
              have hnb64 := NB200_192.out
              have hnc64 := NB192_200.out
              have hcz65_0 : wr.cell? ⟨gb200, 0, none⟩ = some (.bool true) := (kC_ BK200.out 0).trans rfl
              have hcz65_1 : wr.cell? ⟨gb200, 1, none⟩ = some (u201001) := (kC_ BK200.out 1).trans rfl
              have hcz65_2 : wr.cell? ⟨gb200, 2, none⟩ = some (u201002) := (kC_ BK200.out 2).trans rfl
              have hcz65_3 : wr.cell? ⟨gb200, 3, none⟩ = some (u201003) := (kC_ BK200.out 3).trans rfl
              have hfz65_0 := kF_ BK200.out 0
              have hfz65_1 := kF_ BK200.out 1
              have hfz65_2 := kF_ BK200.out 2
              have hfz65_3 := kF_ BK200.out 3
              obtain ⟨Ao66, co66, eo66⟩ := Kd.R_slice HO_201001.out
              subst eo66
              obtain ⟨Ao67, co67, eo67⟩ := Kd.R_slice HO_201002.out
              subst eo67
              obtain ⟨Ao68, co68, eo68⟩ := Kd.R_slice HO_201003.out
              subst eo68
              go_wp2_with (first | (go_at_call 32; (with_reducible refine (spec_NodeOk.calls k4 true _ _ x201001_13 _ _ x201002_31 _ _ x201003_4 true _ ?side1 ?side2 ?side3 ?side4 ?side5 ?side6 A60.out).mono ?_); (case side1 => repeat (first | exact (Kd.R_reads' HO_201001.out).2.2 | (with_reducible refine cA_ ?_ _) | (with_reducible refine cN_ ?_ _) | (with_reducible refine cD_ ?_))); (case side2 => exact (Kd.R_reads' HO_201001.out).2.1); (case side3 => repeat (first | exact (Kd.R_reads' HO_201002.out).2.2 | (with_reducible refine cA_ ?_ _) | (with_reducible refine cN_ ?_ _) | (with_reducible refine cD_ ?_))); (case side4 => exact (Kd.R_reads' HO_201002.out).2.1); (case side5 => repeat (first | exact (Kd.R_reads' HO_201003.out).2.2 | (with_reducible refine cA_ ?_ _) | (with_reducible refine cN_ ?_ _) | (with_reducible refine cD_ ?_))); (case side6 => exact (Kd.R_reads' HO_201003.out).2.1); rintro e w69 ⟨rfl, hb⟩; have n0_ := aM_ (Kd.R_below (by (with_reducible repeat (first | apply rA_ | apply rN_ | apply rD_)); exact HO_201001.out) hb); have n1_ := aM_ (Kd.R_below (by (with_reducible repeat (first | apply rA_ | apply rN_ | apply rD_)); exact HO_201002.out) hb); have n2_ := aM_ (Kd.R_below (by (with_reducible repeat (first | apply rA_ | apply rN_ | apply rD_)); exact HO_201003.out) hb); have n3_ := aM_ (blk_below (g := gb191) (o := .cells #[.bool false, .slice none 0 0, .slice none 0 0, .slice none 0 0] 29 (0, 0)) (by (with_reducible repeat (first | refine kN_ ?_ _ | refine kD_ ?_ | refine kA_ ?_ _)); exact BK191.out) hb); have n4_ := aM_ (blk_below (g := gb200) (o := .cells #[.bool true, .slice Ao66 x201001_13.length co66, .slice Ao67 x201002_31.length co67, .slice Ao68 x201003_4.length co68] 29 (0, 0)) (by (with_reducible repeat (first | refine kN_ ?_ _ | refine kD_ ?_ | refine kA_ ?_ _)); exact BK200.out) hb); have n5_ := aM_ (J98.below (by repeat (first | (with_reducible first | exact HI192.out | apply J98.alloc | apply J98.drewN | apply J98.drew | apply J98.set_1 | apply J98.set_2 | refine J98.far ?_ NB192_191.out _ | refine J98.far ?_ NB192_200.out _) | exact HI192.out)) hb); have n6_ := aM_ (bT_ (by repeat (first | (with_reducible first | exact HB.out | apply bA_ | apply bN_ | apply bD_ | refine bE_ ?_ (J98.ge HI192.out) | refine bE_ ?_ GE191.out | refine bE_ ?_ GE200.out) | exact HB.out)) hb); clear HO_201001; clear HO_201002; clear HO_201003; clear BK191; clear BK200; clear HI192; clear HB; have HO_201001 := n0_; have HO_201002 := n1_; have HO_201003 := n2_; have BK191 := n3_; have BK200 := n4_; have HI192 := n5_; have HB := n6_; clear n0_ n1_ n2_ n3_ n4_ n5_ n6_; (try clear hb); (try clear hb2); (try clear hk); (try clear hi); have hcz70_0 : w69.cell? ⟨gb200, 0, none⟩ = some (.bool true) := (kC_ BK200.out 0).trans rfl; have hcz70_1 : w69.cell? ⟨gb200, 1, none⟩ = some (.slice Ao66 x201001_13.length co66) := (kC_ BK200.out 1).trans rfl; have hcz70_2 : w69.cell? ⟨gb200, 2, none⟩ = some (.slice Ao67 x201002_31.length co67) := (kC_ BK200.out 2).trans rfl; have hcz70_3 : w69.cell? ⟨gb200, 3, none⟩ = some (.slice Ao68 x201003_4.length co68) := (kC_ BK200.out 3).trans rfl; have hfz70_0 := kF_ BK200.out 0; have hfz70_1 := kF_ BK200.out 1; have hfz70_2 := kF_ BK200.out 2; have hfz70_3 := kF_ BK200.out 3; have hnb71 := NB191_192.out; have hnc71 := NB192_191.out; have hcz72_0 : w69.cell? ⟨gb191, 0, none⟩ = some (.bool false) := (kC_ BK191.out 0).trans rfl; have hcz72_1 : w69.cell? ⟨gb191, 1, none⟩ = some (.slice none 0 0) := (kC_ BK191.out 1).trans rfl; have hcz72_2 : w69.cell? ⟨gb191, 2, none⟩ = some (.slice none 0 0) := (kC_ BK191.out 2).trans rfl; have hcz72_3 : w69.cell? ⟨gb191, 3, none⟩ = some (.slice none 0 0) := (kC_ BK191.out 3).trans rfl; have hfz72_0 := kF_ BK191.out 0; have hfz72_1 := kF_ BK191.out 1; have hfz72_2 := kF_ BK191.out 2; have hfz72_3 := kF_ BK191.out 3))
              refine bodyPost_ret (results_ct rfl _ _ gb191 29 #[.bool true, .slice Ao66 x201001_13.length co66, .slice Ao67 x201002_31.length co67, .slice Ao68 x201003_4.length co68] (0, 0) _ rfl (by (with_reducible repeat (first | refine kN_ ?_ _ | refine kD_ ?_ | refine kA_ ?_ _)); refine kP_ (cs := #[.bool true, .slice Ao66 x201001_13.length co66, .slice Ao67 x201002_31.length co67, .slice none 0 0]) ?_ 3 _ rfl; (with_reducible repeat (first | refine kN_ ?_ _ | refine kD_ ?_ | refine kA_ ?_ _)); refine kP_ (cs := #[.bool true, .slice Ao66 x201001_13.length co66, .slice none 0 0, .slice none 0 0]) ?_ 2 _ rfl; (with_reducible repeat (first | refine kN_ ?_ _ | refine kD_ ?_ | refine kA_ ?_ _)); refine kP_ (cs := #[.bool true, .slice none 0 0, .slice none 0 0, .slice none 0 0]) ?_ 1 _ rfl; (with_reducible repeat (first | refine kN_ ?_ _ | refine kD_ ?_ | refine kA_ ?_ _)); refine kP_ (cs := #[.bool false, .slice none 0 0, .slice none 0 0, .slice none 0 0]) ?_ 0 _ rfl; (with_reducible repeat (first | refine kN_ ?_ _ | refine kD_ ?_ | refine kA_ ?_ _)); exact BK191.out) Try.underlying29 rfl (by kernel_rfl)) rfl ?_
              exact ⟨_, _, _, by first | rfl | (simp [errW_none, errW_some] <;> rfl) | (simp [*, errW_none, errW_some] <;> rfl), by (with_reducible repeat (first | apply rA_ | apply rN_ | apply rD_)); exact Kd.R_mono (Kd.R_far (p := ⟨gb191, 3, none⟩) (Kd.R_far (p := ⟨gb191, 2, none⟩) (Kd.R_far (p := ⟨gb191, 1, none⟩) (Kd.R_far (p := ⟨gb191, 0, none⟩) (Kd.R_types HO_201001.out BK191.out (by decide)) (fun _ hk => hk.2) (.bool true)) (fun _ hk => hk.2) (.slice Ao66 x201001_13.length co66)) (fun _ hk => hk.2) (.slice Ao67 x201002_31.length co67)) (fun _ hk => hk.2) (.slice Ao68 x201003_4.length co68)) (fun _ hk => hk.1), by (with_reducible repeat (first | apply rA_ | apply rN_ | apply rD_)); exact Kd.R_mono (Kd.R_far (p := ⟨gb191, 3, none⟩) (Kd.R_far (p := ⟨gb191, 2, none⟩) (Kd.R_far (p := ⟨gb191, 1, none⟩) (Kd.R_far (p := ⟨gb191, 0, none⟩) (Kd.R_types HO_201002.out BK191.out (by decide)) (fun _ hk => hk.2) (.bool true)) (fun _ hk => hk.2) (.slice Ao66 x201001_13.length co66)) (fun _ hk => hk.2) (.slice Ao67 x201002_31.length co67)) (fun _ hk => hk.2) (.slice Ao68 x201003_4.length co68)) (fun _ hk => hk.1), by (with_reducible repeat (first | apply rA_ | apply rN_ | apply rD_)); exact Kd.R_mono (Kd.R_far (p := ⟨gb191, 3, none⟩) (Kd.R_far (p := ⟨gb191, 2, none⟩) (Kd.R_far (p := ⟨gb191, 1, none⟩) (Kd.R_far (p := ⟨gb191, 0, none⟩) (Kd.R_types HO_201003.out BK191.out (by decide)) (fun _ hk => hk.2) (.bool true)) (fun _ hk => hk.2) (.slice Ao66 x201001_13.length co66)) (fun _ hk => hk.2) (.slice Ao67 x201002_31.length co67)) (fun _ hk => hk.2) (.slice Ao68 x201003_4.length co68)) (fun _ hk => trivial), by repeat (first | (with_reducible first | exact HB.out | apply bA_ | apply bN_ | apply bD_ | refine bE_ ?_ (J98.ge HI192.out) | refine bE_ ?_ GE191.out | refine bE_ ?_ GE200.out) | exact HB.out)⟩
             ·replace c61 := Bool.eq_false_iff.mpr c61
              subst c61
              have H1 : (some (false, ([] : List ByteArray), ([] : List ByteArray), ([] : List Int), false)) = some (r1, r2, r3, r4, r5) := by rw [if_neg (show ¬ (false = true) by decide)] at H; exact H
              clear H
              have H := H1
              clear H1
              simp only [Option.some.injEq, Prod.mk.injEq] at H
              obtain ⟨rfl, rfl, rfl, rfl, rfl⟩ := H
              obtain ⟨ASz73_0, cSz73_0, HGz73, hgz73, HSz73_0, HLnz73_0⟩ := HI192.out
              have hcz73_0 := cellS98_0 HGz73
              have hcz73_1 := cellS98_1 HGz73
              have hcz73_2 := cellS98_2 HGz73
              have hfz73_1 := kF_ HGz73 1
              have hfz73_2 := kF_ HGz73 2
              clear HGz73 hgz73
              have hnb74 := NB200_191.out
              have hnc74 := NB191_200.out
              have hnb75 := NB200_192.out
              have hnc75 := NB192_200.out
              have hcz76_0 : wr.cell? ⟨gb200, 0, none⟩ = some (.bool true) := (kC_ BK200.out 0).trans rfl
              have hcz76_1 : wr.cell? ⟨gb200, 1, none⟩ = some (u201001) := (kC_ BK200.out 1).trans rfl
              have hcz76_2 : wr.cell? ⟨gb200, 2, none⟩ = some (u201002) := (kC_ BK200.out 2).trans rfl
              have hcz76_3 : wr.cell? ⟨gb200, 3, none⟩ = some (u201003) := (kC_ BK200.out 3).trans rfl
              have hfz76_0 := kF_ BK200.out 0
              have hfz76_1 := kF_ BK200.out 1
              have hfz76_2 := kF_ BK200.out 2
              have hfz76_3 := kF_ BK200.out 3
              obtain ⟨Ao77, co77, eo77⟩ := Kd.R_slice HO_201001.out
              subst eo77
              obtain ⟨Ao78, co78, eo78⟩ := Kd.R_slice HO_201002.out
              subst eo78
              obtain ⟨Ao79, co79, eo79⟩ := Kd.R_slice HO_201003.out
              subst eo79
              go_wp2_with (first | (go_at_call 32; (with_reducible refine (spec_NodeOk.calls k4 true _ _ x201001_13 _ _ x201002_31 _ _ x201003_4 false _ ?side1 ?side2 ?side3 ?side4 ?side5 ?side6 A60.out).mono ?_); (case side1 => repeat (first | exact (Kd.R_reads' HO_201001.out).2.2 | (with_reducible refine cA_ ?_ _) | (with_reducible refine cN_ ?_ _) | (with_reducible refine cD_ ?_))); (case side2 => exact (Kd.R_reads' HO_201001.out).2.1); (case side3 => repeat (first | exact (Kd.R_reads' HO_201002.out).2.2 | (with_reducible refine cA_ ?_ _) | (with_reducible refine cN_ ?_ _) | (with_reducible refine cD_ ?_))); (case side4 => exact (Kd.R_reads' HO_201002.out).2.1); (case side5 => repeat (first | exact (Kd.R_reads' HO_201003.out).2.2 | (with_reducible refine cA_ ?_ _) | (with_reducible refine cN_ ?_ _) | (with_reducible refine cD_ ?_))); (case side6 => exact (Kd.R_reads' HO_201003.out).2.1); rintro e w80 ⟨rfl, hb⟩; have n0_ := aM_ (Kd.R_below (by (with_reducible repeat (first | apply rA_ | apply rN_ | apply rD_)); exact HO_201001.out) hb); have n1_ := aM_ (Kd.R_below (by (with_reducible repeat (first | apply rA_ | apply rN_ | apply rD_)); exact HO_201002.out) hb); have n2_ := aM_ (Kd.R_below (by (with_reducible repeat (first | apply rA_ | apply rN_ | apply rD_)); exact HO_201003.out) hb); have n3_ := aM_ (blk_below (g := gb191) (o := .cells #[.bool false, .slice none 0 0, .slice none 0 0, .slice none 0 0] 29 (0, 0)) (by (with_reducible repeat (first | refine kN_ ?_ _ | refine kD_ ?_ | refine kA_ ?_ _)); exact BK191.out) hb); have n4_ := aM_ (blk_below (g := gb200) (o := .cells #[.bool true, .slice Ao77 x201001_13.length co77, .slice Ao78 x201002_31.length co78, .slice Ao79 x201003_4.length co79] 29 (0, 0)) (by (with_reducible repeat (first | refine kN_ ?_ _ | refine kD_ ?_ | refine kA_ ?_ _)); exact BK200.out) hb); have n5_ := aM_ (J98.below (by repeat (first | (with_reducible first | exact HI192.out | apply J98.alloc | apply J98.drewN | apply J98.drew | apply J98.set_1 | apply J98.set_2 | refine J98.far ?_ NB192_191.out _ | refine J98.far ?_ NB192_200.out _) | exact HI192.out)) hb); have n6_ := aM_ (bT_ (by repeat (first | (with_reducible first | exact HB.out | apply bA_ | apply bN_ | apply bD_ | refine bE_ ?_ (J98.ge HI192.out) | refine bE_ ?_ GE191.out | refine bE_ ?_ GE200.out) | exact HB.out)) hb); clear HO_201001; clear HO_201002; clear HO_201003; clear BK191; clear BK200; clear HI192; clear HB; have HO_201001 := n0_; have HO_201002 := n1_; have HO_201003 := n2_; have BK191 := n3_; have BK200 := n4_; have HI192 := n5_; have HB := n6_; clear n0_ n1_ n2_ n3_ n4_ n5_ n6_; (try clear hb); (try clear hb2); (try clear hk); (try clear hi); have hnb81 := NB191_192.out; have hnc81 := NB192_191.out; have hcz82_0 : w80.cell? ⟨gb191, 0, none⟩ = some (.bool false) := (kC_ BK191.out 0).trans rfl; have hcz82_1 : w80.cell? ⟨gb191, 1, none⟩ = some (.slice none 0 0) := (kC_ BK191.out 1).trans rfl; have hcz82_2 : w80.cell? ⟨gb191, 2, none⟩ = some (.slice none 0 0) := (kC_ BK191.out 2).trans rfl; have hcz82_3 : w80.cell? ⟨gb191, 3, none⟩ = some (.slice none 0 0) := (kC_ BK191.out 3).trans rfl; have hfz82_0 := kF_ BK191.out 0; have hfz82_1 := kF_ BK191.out 1; have hfz82_2 := kF_ BK191.out 2; have hfz82_3 := kF_ BK191.out 3))
              refine bodyPost_ret (results_ct rfl _ _ gb191 29 #[.bool false, .slice none 0 0, .slice none 0 0, .slice none 0 0] (0, 0) _ rfl (by (with_reducible repeat (first | refine kN_ ?_ _ | refine kD_ ?_ | refine kA_ ?_ _)); refine kP_ (cs := #[.bool false, .slice none 0 0, .slice none 0 0, .slice none 0 0]) ?_ 3 _ rfl; (with_reducible repeat (first | refine kN_ ?_ _ | refine kD_ ?_ | refine kA_ ?_ _)); refine kP_ (cs := #[.bool false, .slice none 0 0, .slice none 0 0, .slice none 0 0]) ?_ 2 _ rfl; (with_reducible repeat (first | refine kN_ ?_ _ | refine kD_ ?_ | refine kA_ ?_ _)); refine kP_ (cs := #[.bool false, .slice none 0 0, .slice none 0 0, .slice none 0 0]) ?_ 1 _ rfl; (with_reducible repeat (first | refine kN_ ?_ _ | refine kD_ ?_ | refine kA_ ?_ _)); refine kP_ (cs := #[.bool false, .slice none 0 0, .slice none 0 0, .slice none 0 0]) ?_ 0 _ rfl; (with_reducible repeat (first | refine kN_ ?_ _ | refine kD_ ?_ | refine kA_ ?_ _)); exact BK191.out) Try.underlying29 rfl (by kernel_rfl)) rfl ?_
              exact ⟨_, _, _, by first | rfl | (simp [errW_none, errW_some] <;> rfl) | (simp [*, errW_none, errW_some] <;> rfl), by first | exact Kd.R_nil _ _ _ _ _ | exact Kd.N_nil _ _ _ _ _ | exact Kd.V_nil _ _ _ _ _ | exact Kd.Q_nil _ _ _ _ _ | exact Kd.S_nil _ _ _ _ _, by first | exact Kd.R_nil _ _ _ _ _ | exact Kd.N_nil _ _ _ _ _ | exact Kd.V_nil _ _ _ _ _ | exact Kd.Q_nil _ _ _ _ _ | exact Kd.S_nil _ _ _ _ _, by first | exact Kd.R_nil _ _ _ _ _ | exact Kd.N_nil _ _ _ _ _ | exact Kd.V_nil _ _ _ _ _ | exact Kd.Q_nil _ _ _ _ _ | exact Kd.S_nil _ _ _ _ _, by repeat (first | (with_reducible first | exact HB.out | apply bA_ | apply bN_ | apply bD_ | refine bE_ ?_ (J98.ge HI192.out) | refine bE_ ?_ GE191.out | refine bE_ ?_ GE200.out) | exact HB.out)⟩
            ·rw [if_neg c59] at H
             have c59b0 : (x193001_4 == (l0.length : Int)) = false := beq_eq_false_iff_ne.mpr c59
             have c59b1 : (x193001_4 != (l0.length : Int)) = true := bne_iff_ne.mpr c59
             simp only [Option.some.injEq, Prod.mk.injEq] at H
             obtain ⟨rfl, rfl, rfl, rfl, rfl⟩ := H
             obtain ⟨ASz83_0, cSz83_0, HGz83, hgz83, HSz83_0, HLnz83_0⟩ := HI192.out
             have hcz83_0 := cellS98_0 HGz83
             have hcz83_1 := cellS98_1 HGz83
             have hcz83_2 := cellS98_2 HGz83
             have hfz83_1 := kF_ HGz83 1
             have hfz83_2 := kF_ HGz83 2
             clear HGz83 hgz83
             have hnb84 := NB200_191.out
             have hnc84 := NB191_200.out
             have hnb85 := NB200_192.out
             have hnc85 := NB192_200.out
             have hcz86_0 : wr.cell? ⟨gb200, 0, none⟩ = some (.bool true) := (kC_ BK200.out 0).trans rfl
             have hcz86_1 : wr.cell? ⟨gb200, 1, none⟩ = some (u201001) := (kC_ BK200.out 1).trans rfl
             have hcz86_2 : wr.cell? ⟨gb200, 2, none⟩ = some (u201002) := (kC_ BK200.out 2).trans rfl
             have hcz86_3 : wr.cell? ⟨gb200, 3, none⟩ = some (u201003) := (kC_ BK200.out 3).trans rfl
             have hfz86_0 := kF_ BK200.out 0
             have hfz86_1 := kF_ BK200.out 1
             have hfz86_2 := kF_ BK200.out 2
             have hfz86_3 := kF_ BK200.out 3
             have hnb87 := NB191_192.out
             have hnc87 := NB192_191.out
             have hcz88_0 : wr.cell? ⟨gb191, 0, none⟩ = some (.bool false) := (kC_ BK191.out 0).trans rfl
             have hcz88_1 : wr.cell? ⟨gb191, 1, none⟩ = some (.slice none 0 0) := (kC_ BK191.out 1).trans rfl
             have hcz88_2 : wr.cell? ⟨gb191, 2, none⟩ = some (.slice none 0 0) := (kC_ BK191.out 2).trans rfl
             have hcz88_3 : wr.cell? ⟨gb191, 3, none⟩ = some (.slice none 0 0) := (kC_ BK191.out 3).trans rfl
             have hfz88_0 := kF_ BK191.out 0
             have hfz88_1 := kF_ BK191.out 1
             have hfz88_2 := kF_ BK191.out 2
             have hfz88_3 := kF_ BK191.out 3
             go_wp2
             refine bodyPost_ret (results_ct rfl _ _ gb191 29 #[.bool false, .slice none 0 0, .slice none 0 0, .slice none 0 0] (0, 0) _ rfl (by (with_reducible repeat (first | refine kN_ ?_ _ | refine kD_ ?_ | refine kA_ ?_ _)); refine kP_ (cs := #[.bool false, .slice none 0 0, .slice none 0 0, .slice none 0 0]) ?_ 3 _ rfl; (with_reducible repeat (first | refine kN_ ?_ _ | refine kD_ ?_ | refine kA_ ?_ _)); refine kP_ (cs := #[.bool false, .slice none 0 0, .slice none 0 0, .slice none 0 0]) ?_ 2 _ rfl; (with_reducible repeat (first | refine kN_ ?_ _ | refine kD_ ?_ | refine kA_ ?_ _)); refine kP_ (cs := #[.bool false, .slice none 0 0, .slice none 0 0, .slice none 0 0]) ?_ 1 _ rfl; (with_reducible repeat (first | refine kN_ ?_ _ | refine kD_ ?_ | refine kA_ ?_ _)); refine kP_ (cs := #[.bool false, .slice none 0 0, .slice none 0 0, .slice none 0 0]) ?_ 0 _ rfl; (with_reducible repeat (first | refine kN_ ?_ _ | refine kD_ ?_ | refine kA_ ?_ _)); exact BK191.out) Try.underlying29 rfl (by kernel_rfl)) rfl ?_
             exact ⟨_, _, _, by first | rfl | (simp [errW_none, errW_some] <;> rfl) | (simp [*, errW_none, errW_some] <;> rfl), by first | exact Kd.R_nil _ _ _ _ _ | exact Kd.N_nil _ _ _ _ _ | exact Kd.V_nil _ _ _ _ _ | exact Kd.Q_nil _ _ _ _ _ | exact Kd.S_nil _ _ _ _ _, by first | exact Kd.R_nil _ _ _ _ _ | exact Kd.N_nil _ _ _ _ _ | exact Kd.V_nil _ _ _ _ _ | exact Kd.Q_nil _ _ _ _ _ | exact Kd.S_nil _ _ _ _ _, by first | exact Kd.R_nil _ _ _ _ _ | exact Kd.N_nil _ _ _ _ _ | exact Kd.V_nil _ _ _ _ _ | exact Kd.Q_nil _ _ _ _ _ | exact Kd.S_nil _ _ _ _ _, by repeat (first | (with_reducible first | exact HB.out | apply bA_ | apply bN_ | apply bD_ | refine bE_ ?_ (J98.ge HI192.out) | refine bE_ ?_ GE191.out | refine bE_ ?_ GE200.out) | exact HB.out)⟩
           ·replace c58 := Bool.eq_false_iff.mpr c58
            subst c58
            have H1 : ((spec_l14Num.f k4 l0 x193001_4 false).bind fun bt214 => (if x201003_4.length < 17592186044416 then (spec_GetNode.l2 k4 l0 t196 (wrap64 (x12_4 + 1)) l0 bt214.2.1 bt214.2.2 false x201001_13 x201002_31 (x201003_4 ++ [bt214.1])) else (none))) = some (r1, r2, r3, r4, r5) := by rw [if_neg (show ¬ (false = true) by decide)] at H; exact H
            clear H
            have H := H1
            clear H1
            replace H := oB_ H
            obtain ⟨⟨t214, t215, t216⟩, A890, H⟩ := H
            replace H : (if x201003_4.length < 17592186044416 then (spec_GetNode.l2 k4 l0 t196 (wrap64 (x12_4 + 1)) l0 t215 t216 false x201001_13 x201002_31 (x201003_4 ++ [t214])) else (none)) = some (r1, r2, r3, r4, r5) := H
            have A89 := aM_ A890
            clear A890
            by_cases c90 : x201003_4.length < 17592186044416
            ·rw [if_pos c90] at H
             have LMc90 := aM_ c90
             clear c90
             obtain ⟨y217, hy217⟩ : ∃ y_ : List Int, y_ = (x201003_4 ++ [t214]) := ⟨_, rfl⟩
             replace H : (spec_GetNode.l2 k4 l0 t196 (wrap64 (x12_4 + 1)) l0 t215 t216 false x201001_13 x201002_31 y217) = some (r1, r2, r3, r4, r5) := by first | (rw [hy217]; with_reducible exact H) | (have H2_ := (Option.bind_some _ _).symm.trans H; rw [hy217]; with_reducible exact H2_) | (have H2_ := (Option.bind_some _ _).symm.trans H; with_reducible exact H2_) | with_reducible exact H | (rw [hy217]; exact H) | exact H
             have Ny217 := aM_ hy217
             clear hy217
             have H' := aM_ H
             clear H
             obtain ⟨ASz91_0, cSz91_0, HGz91, hgz91, HSz91_0, HLnz91_0⟩ := HI192.out
             have hcz91_0 := cellS98_0 HGz91
             have hcz91_1 := cellS98_1 HGz91
             have hcz91_2 := cellS98_2 HGz91
             have hfz91_1 := kF_ HGz91 1
             have hfz91_2 := kF_ HGz91 2
             clear HGz91 hgz91
             have hnb92 := NB200_191.out
             have hnc92 := NB191_200.out
             have hnb93 := NB200_192.out
             have hnc93 := NB192_200.out
             have hcz94_0 : wr.cell? ⟨gb200, 0, none⟩ = some (.bool false) := (kC_ BK200.out 0).trans rfl
             have hcz94_1 : wr.cell? ⟨gb200, 1, none⟩ = some (u201001) := (kC_ BK200.out 1).trans rfl
             have hcz94_2 : wr.cell? ⟨gb200, 2, none⟩ = some (u201002) := (kC_ BK200.out 2).trans rfl
             have hcz94_3 : wr.cell? ⟨gb200, 3, none⟩ = some (u201003) := (kC_ BK200.out 3).trans rfl
             have hfz94_0 := kF_ BK200.out 0
             have hfz94_1 := kF_ BK200.out 1
             have hfz94_2 := kF_ BK200.out 2
             have hfz94_3 := kF_ BK200.out 3
             go_wp2_with (first | ((with_reducible refine gate_callee (f := 76) rfl ?_); refine goesL_ (some 103) rfl rfl Try.func76 (by kernel_rfl) rfl #[.pointer (some ⟨gb192, 0, none⟩)] rfl (by (try simp only [mA_, mC_, mN_]); first | done | rfl | (simp only [lD_, lT_]; rfl)) ?_; (with_reducible refine (spec_l14Num.calls k4 gb192 l0 x193001_4 false t214 t215 t216 w _ ?side1 ?side2 A89.out).mono ?_); (case side1 => repeat (first | (with_reducible first | exact HI192.out | apply J98.alloc | apply J98.drewN | apply J98.drew | apply J98.set_1 | apply J98.set_2 | refine J98.far ?_ NB192_191.out _ | refine J98.far ?_ NB192_200.out _) | exact HI192.out)); (case side2 => repeat (first | (with_reducible first | exact HB.out | apply bA_ | apply bN_ | apply bD_ | refine bE_ ?_ (J98.ge HI192.out) | refine bE_ ?_ GE191.out | refine bE_ ?_ GE200.out) | exact HB.out)); rintro e w95 ⟨rfl, hi, hb, hk⟩; refine ⟨_, rfl, ?_⟩; have n0_ := aM_ (Kd.R_mono (Kd.R_keep (J98.apart (show J98 w _ gb192 l0 x193001_4 false from by repeat (first | (with_reducible first | exact HI192.out | apply J98.alloc | apply J98.drewN | apply J98.drew | apply J98.set_1 | apply J98.set_2 | refine J98.far ?_ NB192_191.out _ | refine J98.far ?_ NB192_200.out _) | exact HI192.out)) (by (with_reducible repeat (first | apply rA_ | apply rN_ | apply rD_)); exact HO_201001.out) (by decide)) hk (fun _ h => h.2)) (fun _ h => h.1)); have n1_ := aM_ (Kd.R_mono (Kd.R_keep (J98.apart (show J98 w _ gb192 l0 x193001_4 false from by repeat (first | (with_reducible first | exact HI192.out | apply J98.alloc | apply J98.drewN | apply J98.drew | apply J98.set_1 | apply J98.set_2 | refine J98.far ?_ NB192_191.out _ | refine J98.far ?_ NB192_200.out _) | exact HI192.out)) (by (with_reducible repeat (first | apply rA_ | apply rN_ | apply rD_)); exact HO_201002.out) (by decide)) hk (fun _ h => h.2)) (fun _ h => h.1)); have n2_ := aM_ (Kd.R_mono (Kd.R_keep (J98.apart (show J98 w _ gb192 l0 x193001_4 false from by repeat (first | (with_reducible first | exact HI192.out | apply J98.alloc | apply J98.drewN | apply J98.drew | apply J98.set_1 | apply J98.set_2 | refine J98.far ?_ NB192_191.out _ | refine J98.far ?_ NB192_200.out _) | exact HI192.out)) (by (with_reducible repeat (first | apply rA_ | apply rN_ | apply rD_)); exact HO_201003.out) (by decide)) hk (fun _ h => h.2)) (fun _ h => h.1)); have n3_ := aM_ (KeepBut.blk hk (g' := gb191) (o := .cells #[.bool false, .slice none 0 0, .slice none 0 0, .slice none 0 0] 29 (0, 0)) (by (with_reducible repeat (first | refine kN_ ?_ _ | refine kD_ ?_ | refine kA_ ?_ _)); exact BK191.out) NB191_192.out (by simp)); have n4_ := aM_ (KeepBut.blk hk (g' := gb200) (o := .cells #[.bool false, u201001, u201002, u201003] 29 (0, 0)) (by (with_reducible repeat (first | refine kN_ ?_ _ | refine kD_ ?_ | refine kA_ ?_ _)); exact BK200.out) NB200_192.out (by simp)); have n5_ := aM_ (hb); have n6_ := aM_ (hi); clear HO_201001; clear HO_201002; clear HO_201003; clear BK191; clear BK200; clear HB; clear HI192; have HO_201001 := n0_; have HO_201002 := n1_; have HO_201003 := n2_; have BK191 := n3_; have BK200 := n4_; have HB := n5_; have HI192 := n6_; clear n0_ n1_ n2_ n3_ n4_ n5_ n6_; (try clear hb); (try clear hb2); (try clear hk); (try clear hi); have hcz96_0 : w95.cell? ⟨gb200, 0, none⟩ = some (.bool false) := (kC_ BK200.out 0).trans rfl; have hcz96_1 : w95.cell? ⟨gb200, 1, none⟩ = some (u201001) := (kC_ BK200.out 1).trans rfl; have hcz96_2 : w95.cell? ⟨gb200, 2, none⟩ = some (u201002) := (kC_ BK200.out 2).trans rfl; have hcz96_3 : w95.cell? ⟨gb200, 3, none⟩ = some (u201003) := (kC_ BK200.out 3).trans rfl; have hfz96_0 := kF_ BK200.out 0; have hfz96_1 := kF_ BK200.out 1; have hfz96_2 := kF_ BK200.out 2; have hfz96_3 := kF_ BK200.out 3) | ((with_reducible refine gate_builtin (b := .append) (xs := #[.tmp 105, .tmp 107]) rfl ?_); (try (refine gate_guard (by rfl) ?_; dsimp only)); at_builtin; refine Kd.R_append (Kd.int .i64) (w0 := w) w.heap.size rfl (.tmp 105) (.tmp 107) 23 3 (.int .i64 0) 8 rfl Try.underlying23 info3 rfl (by decide) (by omega) u201003 x201003_4 t214 [.int .i64 t214] (fun _ => True) (fun _ => False) rfl rfl ?aP (fun _ hk => hk.elim) ?aF ?aO ?aB ?aS ?aL ?_; (case aP => exact rfl); (case aB => exact (by repeat (first | (with_reducible first | exact HB.out | apply bA_ | apply bN_ | apply bD_ | refine bE_ ?_ (J98.ge HI192.out) | refine bE_ ?_ GE191.out | refine bE_ ?_ GE200.out) | exact HB.out))); (case aF => exact (fun _ _ => trivial)); (case aO => exact (by (with_reducible repeat (first | apply rA_ | apply rN_ | apply rD_)); exact HO_201003.out)); (case aS => exact (bS_ (by repeat (first | (with_reducible first | exact HB.out | apply bA_ | apply bN_ | apply bD_ | refine bE_ ?_ (J98.ge HI192.out) | refine bE_ ?_ GE191.out | refine bE_ ?_ GE200.out) | exact HB.out)))); (case aL => have := LMc90.out; omega); intro v218 w97 ho hb hg hat; rw [← Ny217.out] at ho; have n0_ := aM_ (Kd.R_over' (by (with_reducible repeat (first | apply rA_ | apply rN_ | apply rD_)); exact HO_201001.out) (Kd.R_typed (by (with_reducible repeat (first | apply rA_ | apply rN_ | apply rD_)); exact HO_201003.out)) (by decide) hg); have n1_ := aM_ (Kd.R_over' (by (with_reducible repeat (first | apply rA_ | apply rN_ | apply rD_)); exact HO_201002.out) (Kd.R_typed (by (with_reducible repeat (first | apply rA_ | apply rN_ | apply rD_)); exact HO_201003.out)) (by decide) hg); have n2_ := aM_ (blk_grown (g := gb191) (o := .cells #[.bool false, .slice none 0 0, .slice none 0 0, .slice none 0 0] 29 (0, 0)) (by (with_reducible repeat (first | refine kN_ ?_ _ | refine kD_ ?_ | refine kA_ ?_ _)); exact BK191.out) hg (Kd.R_ne HO_201003.out BK191.out (by decide))); have n3_ := aM_ (blk_grown (g := gb200) (o := .cells #[.bool false, u201001, u201002, u201003] 29 (0, 0)) (by (with_reducible repeat (first | refine kN_ ?_ _ | refine kD_ ?_ | refine kA_ ?_ _)); exact BK200.out) hg (Kd.R_ne HO_201003.out BK200.out (by decide))); have n4_ := aM_ (J98.grown (by repeat (first | (with_reducible first | exact HI192.out | apply J98.alloc | apply J98.drewN | apply J98.drew | apply J98.set_1 | apply J98.set_2 | refine J98.far ?_ NB192_191.out _ | refine J98.far ?_ NB192_200.out _) | exact HI192.out)) hg (J98.own_ne HI192.out HO_201003.out (by decide))); have n5_ := aM_ (hb); have n6_ := aM_ (ho); clear HO_201001; clear HO_201002; clear BK191; clear BK200; clear HI192; clear HB; clear HO_201003; have HO_201001 := n0_; have HO_201002 := n1_; have BK191 := n2_; have BK200 := n3_; have HI192 := n4_; have HB := n5_; have HO219 := n6_; clear n0_ n1_ n2_ n3_ n4_ n5_ n6_; clear ho hb hg hat; obtain ⟨Ao98, co98, eo98⟩ := Kd.R_slice HO219.out; subst eo98; have hcz99_0 : w97.cell? ⟨gb200, 0, none⟩ = some (.bool false) := (kC_ BK200.out 0).trans rfl; have hcz99_1 : w97.cell? ⟨gb200, 1, none⟩ = some (u201001) := (kC_ BK200.out 1).trans rfl; have hcz99_2 : w97.cell? ⟨gb200, 2, none⟩ = some (u201002) := (kC_ BK200.out 2).trans rfl; have hcz99_3 : w97.cell? ⟨gb200, 3, none⟩ = some (u201003) := (kC_ BK200.out 3).trans rfl; have hfz99_0 := kF_ BK200.out 0; have hfz99_1 := kF_ BK200.out 1; have hfz99_2 := kF_ BK200.out 2; have hfz99_3 := kF_ BK200.out 3))
             go_roundg k4
             case measure => have := HJ3.out; have := HJ13.out; have := HJ31.out; have := HK4.out; omega
             case rel => exact ⟨(wrap64 (x12_4 + 1)), (t215), (t216), (y217), (.slice Ao98 y217.length co98), (by first | rfl | (simp; done) | (simp [*]; done)), H', ⟨by have := HJ3.out; have := HJ13.out; have := HJ31.out; have := HK4.out; omega⟩, ⟨by (with_reducible repeat (first | apply rA_ | apply rN_ | apply rD_)); exact Kd.R_mono (Kd.R_far (p := ⟨gb200, 3, none⟩) (Kd.R_types HO_201001.out BK200.out (by decide)) (fun _ hk => hk.2) (.slice Ao98 y217.length co98)) (fun _ hk => hk.1)⟩, ⟨by (with_reducible repeat (first | apply rA_ | apply rN_ | apply rD_)); exact Kd.R_mono (Kd.R_far (p := ⟨gb200, 3, none⟩) (Kd.R_types HO_201002.out BK200.out (by decide)) (fun _ hk => hk.2) (.slice Ao98 y217.length co98)) (fun _ hk => hk.1)⟩, ⟨by (with_reducible repeat (first | apply rA_ | apply rN_ | apply rD_)); exact Kd.R_mono (Kd.R_far (p := ⟨gb200, 3, none⟩) (Kd.R_types HO219.out BK200.out (by decide)) (fun _ hk => hk.2) (.slice Ao98 y217.length co98)) (fun _ hk => trivial)⟩, ⟨by (with_reducible repeat (first | refine kN_ ?_ _ | refine kD_ ?_ | refine kA_ ?_ _)); refine blk_far ?_ NB191_200.out _; (with_reducible repeat (first | refine kN_ ?_ _ | refine kD_ ?_ | refine kA_ ?_ _)); exact BK191.out⟩, ⟨by (with_reducible repeat (first | refine kN_ ?_ _ | refine kD_ ?_ | refine kA_ ?_ _)); refine kP_ (cs := #[.bool false, u201001, u201002, u201003]) ?_ 3 _ rfl; (with_reducible repeat (first | refine kN_ ?_ _ | refine kD_ ?_ | refine kA_ ?_ _)); exact BK200.out⟩, ⟨by repeat (first | (with_reducible first | exact HI192.out | apply J98.alloc | apply J98.drewN | apply J98.drew | apply J98.set_1 | apply J98.set_2 | refine J98.far ?_ NB192_191.out _ | refine J98.far ?_ NB192_200.out _) | exact HI192.out)⟩, ⟨by repeat (first | (with_reducible first | exact HB.out | apply bA_ | apply bN_ | apply bD_ | refine bE_ ?_ (J98.ge HI192.out) | refine bE_ ?_ GE191.out | refine bE_ ?_ GE200.out) | exact HB.out)⟩⟩
            ·rw [if_neg c90] at H
             exact absurd H (by simp)
         ·rw [if_neg c52] at H
          have c52b0 : decide (x12_4 ≤ t196) = false := decide_eq_false c52
          clear c52
          by_cases c100 : x193002_4 = true
          ·subst c100
           have H1 : (some (false, ([] : List ByteArray), ([] : List ByteArray), ([] : List Int), false)) = some (r1, r2, r3, r4, r5) := by rw [if_pos rfl] at H; exact H
           clear H
           have H := H1
           clear H1
           simp only [Option.some.injEq, Prod.mk.injEq] at H
           obtain ⟨rfl, rfl, rfl, rfl, rfl⟩ := H
           obtain ⟨ASz101_0, cSz101_0, HGz101, hgz101, HSz101_0, HLnz101_0⟩ := HI192.out
           have hcz101_0 := cellS98_0 HGz101
           have hcz101_1 := cellS98_1 HGz101
           have hcz101_2 := cellS98_2 HGz101
           have hfz101_1 := kF_ HGz101 1
           have hfz101_2 := kF_ HGz101 2
           clear HGz101 hgz101
           have hnb102 := NB191_200.out
           have hnc102 := NB200_191.out
           have hnb103 := NB191_192.out
           have hnc103 := NB192_191.out
           have hcz104_0 : wr.cell? ⟨gb191, 0, none⟩ = some (.bool false) := (kC_ BK191.out 0).trans rfl
           have hcz104_1 : wr.cell? ⟨gb191, 1, none⟩ = some (.slice none 0 0) := (kC_ BK191.out 1).trans rfl
           have hcz104_2 : wr.cell? ⟨gb191, 2, none⟩ = some (.slice none 0 0) := (kC_ BK191.out 2).trans rfl
           have hcz104_3 : wr.cell? ⟨gb191, 3, none⟩ = some (.slice none 0 0) := (kC_ BK191.out 3).trans rfl
           have hfz104_0 := kF_ BK191.out 0
           have hfz104_1 := kF_ BK191.out 1
           have hfz104_2 := kF_ BK191.out 2
           have hfz104_3 := kF_ BK191.out 3
           go_wp2
           refine bodyPost_ret (results_ct rfl _ _ gb191 29 #[.bool false, .slice none 0 0, .slice none 0 0, .slice none 0 0] (0, 0) _ rfl (by (with_reducible repeat (first | refine kN_ ?_ _ | refine kD_ ?_ | refine kA_ ?_ _)); refine kP_ (cs := #[.bool false, .slice none 0 0, .slice none 0 0, .slice none 0 0]) ?_ 3 _ rfl; (with_reducible repeat (first | refine kN_ ?_ _ | refine kD_ ?_ | refine kA_ ?_ _)); refine kP_ (cs := #[.bool false, .slice none 0 0, .slice none 0 0, .slice none 0 0]) ?_ 2 _ rfl; (with_reducible repeat (first | refine kN_ ?_ _ | refine kD_ ?_ | refine kA_ ?_ _)); refine kP_ (cs := #[.bool false, .slice none 0 0, .slice none 0 0, .slice none 0 0]) ?_ 1 _ rfl; (with_reducible repeat (first | refine kN_ ?_ _ | refine kD_ ?_ | refine kA_ ?_ _)); refine kP_ (cs := #[.bool false, .slice none 0 0, .slice none 0 0, .slice none 0 0]) ?_ 0 _ rfl; (with_reducible repeat (first | refine kN_ ?_ _ | refine kD_ ?_ | refine kA_ ?_ _)); exact BK191.out) Try.underlying29 rfl (by kernel_rfl)) rfl ?_
           exact ⟨_, _, _, by first | rfl | (simp [errW_none, errW_some] <;> rfl) | (simp [*, errW_none, errW_some] <;> rfl), by first | exact Kd.R_nil _ _ _ _ _ | exact Kd.N_nil _ _ _ _ _ | exact Kd.V_nil _ _ _ _ _ | exact Kd.Q_nil _ _ _ _ _ | exact Kd.S_nil _ _ _ _ _, by first | exact Kd.R_nil _ _ _ _ _ | exact Kd.N_nil _ _ _ _ _ | exact Kd.V_nil _ _ _ _ _ | exact Kd.Q_nil _ _ _ _ _ | exact Kd.S_nil _ _ _ _ _, by first | exact Kd.R_nil _ _ _ _ _ | exact Kd.N_nil _ _ _ _ _ | exact Kd.V_nil _ _ _ _ _ | exact Kd.Q_nil _ _ _ _ _ | exact Kd.S_nil _ _ _ _ _, by repeat (first | (with_reducible first | exact HB.out | apply bA_ | apply bN_ | apply bD_ | refine bE_ ?_ (J98.ge HI192.out) | refine bE_ ?_ GE191.out | refine bE_ ?_ GE200.out) | exact HB.out)⟩
          ·replace c100 := Bool.eq_false_iff.mpr c100
           subst c100
           have H1 : (if x193001_4 = (l0.length : Int) then ((spec_NodeOk.f k4 y199 x201001_13 x201002_31 x201003_4).bind fun t220 => (if t220 = true then (some (y199, x201001_13, x201002_31, x201003_4, true)) else (some (false, ([] : List ByteArray), ([] : List ByteArray), ([] : List Int), false)))) else (some (false, ([] : List ByteArray), ([] : List ByteArray), ([] : List Int), false))) = some (r1, r2, r3, r4, r5) := by rw [if_neg (show ¬ (false = true) by decide)] at H; exact H
           clear H
           have H := H1
           clear H1
           by_cases c105 : x193001_4 = (l0.length : Int)
           ·rw [if_pos c105] at H
            have c105b0 : (x193001_4 == (l0.length : Int)) = true := beq_iff_eq.mpr c105
            have c105b1 : (x193001_4 != (l0.length : Int)) = false := bne_eq_false_iff_eq.mpr c105
            clear c105
            replace H := oB_ H
            obtain ⟨t220, A1060, H⟩ := H
            replace H : (if t220 = true then (some (y199, x201001_13, x201002_31, x201003_4, true)) else (some (false, ([] : List ByteArray), ([] : List ByteArray), ([] : List Int), false))) = some (r1, r2, r3, r4, r5) := H
            have A106 := aM_ A1060
            clear A1060
            by_cases c107 : t220 = true
            ·subst c107
             have H1 : (some (y199, x201001_13, x201002_31, x201003_4, true)) = some (r1, r2, r3, r4, r5) := by rw [if_pos rfl] at H; exact H
             clear H
             have H := H1
             clear H1
             simp only [Option.some.injEq, Prod.mk.injEq] at H
             obtain ⟨rfl, rfl, rfl, rfl, rfl⟩ := H
             obtain ⟨ASz108_0, cSz108_0, HGz108, hgz108, HSz108_0, HLnz108_0⟩ := HI192.out
             have hcz108_0 := cellS98_0 HGz108
             have hcz108_1 := cellS98_1 HGz108
             have hcz108_2 := cellS98_2 HGz108
             have hfz108_1 := kF_ HGz108 1
             have hfz108_2 := kF_ HGz108 2
             clear HGz108 hgz108
             have hnb109 := NB200_191.out
             have hnc109 := NB191_200.out
             have hnb110 := NB200_192.out
             have hnc110 := NB192_200.out
             have hcz111_0 : wr.cell? ⟨gb200, 0, none⟩ = some (.bool y199) := (kC_ BK200.out 0).trans rfl
             have hcz111_1 : wr.cell? ⟨gb200, 1, none⟩ = some (u201001) := (kC_ BK200.out 1).trans rfl
             have hcz111_2 : wr.cell? ⟨gb200, 2, none⟩ = some (u201002) := (kC_ BK200.out 2).trans rfl
             have hcz111_3 : wr.cell? ⟨gb200, 3, none⟩ = some (u201003) := (kC_ BK200.out 3).trans rfl
             have hfz111_0 := kF_ BK200.out 0
             have hfz111_1 := kF_ BK200.out 1
             have hfz111_2 := kF_ BK200.out 2
             have hfz111_3 := kF_ BK200.out 3
             obtain ⟨Ao112, co112, eo112⟩ := Kd.R_slice HO_201001.out
             subst eo112
             obtain ⟨Ao113, co113, eo113⟩ := Kd.R_slice HO_201002.out
             subst eo113
             obtain ⟨Ao114, co114, eo114⟩ := Kd.R_slice HO_201003.out
             subst eo114
             go_wp2_with (first | (go_at_call 32; (with_reducible refine (spec_NodeOk.calls k4 y199 _ _ x201001_13 _ _ x201002_31 _ _ x201003_4 true _ ?side1 ?side2 ?side3 ?side4 ?side5 ?side6 A106.out).mono ?_); (case side1 => repeat (first | exact (Kd.R_reads' HO_201001.out).2.2 | (with_reducible refine cA_ ?_ _) | (with_reducible refine cN_ ?_ _) | (with_reducible refine cD_ ?_))); (case side2 => exact (Kd.R_reads' HO_201001.out).2.1); (case side3 => repeat (first | exact (Kd.R_reads' HO_201002.out).2.2 | (with_reducible refine cA_ ?_ _) | (with_reducible refine cN_ ?_ _) | (with_reducible refine cD_ ?_))); (case side4 => exact (Kd.R_reads' HO_201002.out).2.1); (case side5 => repeat (first | exact (Kd.R_reads' HO_201003.out).2.2 | (with_reducible refine cA_ ?_ _) | (with_reducible refine cN_ ?_ _) | (with_reducible refine cD_ ?_))); (case side6 => exact (Kd.R_reads' HO_201003.out).2.1); rintro e w115 ⟨rfl, hb⟩; have n0_ := aM_ (Kd.R_below (by (with_reducible repeat (first | apply rA_ | apply rN_ | apply rD_)); exact HO_201001.out) hb); have n1_ := aM_ (Kd.R_below (by (with_reducible repeat (first | apply rA_ | apply rN_ | apply rD_)); exact HO_201002.out) hb); have n2_ := aM_ (Kd.R_below (by (with_reducible repeat (first | apply rA_ | apply rN_ | apply rD_)); exact HO_201003.out) hb); have n3_ := aM_ (blk_below (g := gb191) (o := .cells #[.bool false, .slice none 0 0, .slice none 0 0, .slice none 0 0] 29 (0, 0)) (by (with_reducible repeat (first | refine kN_ ?_ _ | refine kD_ ?_ | refine kA_ ?_ _)); exact BK191.out) hb); have n4_ := aM_ (blk_below (g := gb200) (o := .cells #[.bool y199, .slice Ao112 x201001_13.length co112, .slice Ao113 x201002_31.length co113, .slice Ao114 x201003_4.length co114] 29 (0, 0)) (by (with_reducible repeat (first | refine kN_ ?_ _ | refine kD_ ?_ | refine kA_ ?_ _)); exact BK200.out) hb); have n5_ := aM_ (J98.below (by repeat (first | (with_reducible first | exact HI192.out | apply J98.alloc | apply J98.drewN | apply J98.drew | apply J98.set_1 | apply J98.set_2 | refine J98.far ?_ NB192_191.out _ | refine J98.far ?_ NB192_200.out _) | exact HI192.out)) hb); have n6_ := aM_ (bT_ (by repeat (first | (with_reducible first | exact HB.out | apply bA_ | apply bN_ | apply bD_ | refine bE_ ?_ (J98.ge HI192.out) | refine bE_ ?_ GE191.out | refine bE_ ?_ GE200.out) | exact HB.out)) hb); clear HO_201001; clear HO_201002; clear HO_201003; clear BK191; clear BK200; clear HI192; clear HB; have HO_201001 := n0_; have HO_201002 := n1_; have HO_201003 := n2_; have BK191 := n3_; have BK200 := n4_; have HI192 := n5_; have HB := n6_; clear n0_ n1_ n2_ n3_ n4_ n5_ n6_; (try clear hb); (try clear hb2); (try clear hk); (try clear hi); have hcz116_0 : w115.cell? ⟨gb200, 0, none⟩ = some (.bool y199) := (kC_ BK200.out 0).trans rfl; have hcz116_1 : w115.cell? ⟨gb200, 1, none⟩ = some (.slice Ao112 x201001_13.length co112) := (kC_ BK200.out 1).trans rfl; have hcz116_2 : w115.cell? ⟨gb200, 2, none⟩ = some (.slice Ao113 x201002_31.length co113) := (kC_ BK200.out 2).trans rfl; have hcz116_3 : w115.cell? ⟨gb200, 3, none⟩ = some (.slice Ao114 x201003_4.length co114) := (kC_ BK200.out 3).trans rfl; have hfz116_0 := kF_ BK200.out 0; have hfz116_1 := kF_ BK200.out 1; have hfz116_2 := kF_ BK200.out 2; have hfz116_3 := kF_ BK200.out 3; have hnb117 := NB191_192.out; have hnc117 := NB192_191.out; have hcz118_0 : w115.cell? ⟨gb191, 0, none⟩ = some (.bool false) := (kC_ BK191.out 0).trans rfl; have hcz118_1 : w115.cell? ⟨gb191, 1, none⟩ = some (.slice none 0 0) := (kC_ BK191.out 1).trans rfl; have hcz118_2 : w115.cell? ⟨gb191, 2, none⟩ = some (.slice none 0 0) := (kC_ BK191.out 2).trans rfl; have hcz118_3 : w115.cell? ⟨gb191, 3, none⟩ = some (.slice none 0 0) := (kC_ BK191.out 3).trans rfl; have hfz118_0 := kF_ BK191.out 0; have hfz118_1 := kF_ BK191.out 1; have hfz118_2 := kF_ BK191.out 2; have hfz118_3 := kF_ BK191.out 3))
             refine bodyPost_ret (results_ct rfl _ _ gb191 29 #[.bool y199, .slice Ao112 x201001_13.length co112, .slice Ao113 x201002_31.length co113, .slice Ao114 x201003_4.length co114] (0, 0) _ rfl (by (with_reducible repeat (first | refine kN_ ?_ _ | refine kD_ ?_ | refine kA_ ?_ _)); refine kP_ (cs := #[.bool y199, .slice Ao112 x201001_13.length co112, .slice Ao113 x201002_31.length co113, .slice none 0 0]) ?_ 3 _ rfl; (with_reducible repeat (first | refine kN_ ?_ _ | refine kD_ ?_ | refine kA_ ?_ _)); refine kP_ (cs := #[.bool y199, .slice Ao112 x201001_13.length co112, .slice none 0 0, .slice none 0 0]) ?_ 2 _ rfl; (with_reducible repeat (first | refine kN_ ?_ _ | refine kD_ ?_ | refine kA_ ?_ _)); refine kP_ (cs := #[.bool y199, .slice none 0 0, .slice none 0 0, .slice none 0 0]) ?_ 1 _ rfl; (with_reducible repeat (first | refine kN_ ?_ _ | refine kD_ ?_ | refine kA_ ?_ _)); refine kP_ (cs := #[.bool false, .slice none 0 0, .slice none 0 0, .slice none 0 0]) ?_ 0 _ rfl; (with_reducible repeat (first | refine kN_ ?_ _ | refine kD_ ?_ | refine kA_ ?_ _)); exact BK191.out) Try.underlying29 rfl (by kernel_rfl)) rfl ?_
             exact ⟨_, _, _, by first | rfl | (simp [errW_none, errW_some] <;> rfl) | (simp [*, errW_none, errW_some] <;> rfl), by (with_reducible repeat (first | apply rA_ | apply rN_ | apply rD_)); exact Kd.R_mono (Kd.R_far (p := ⟨gb191, 3, none⟩) (Kd.R_far (p := ⟨gb191, 2, none⟩) (Kd.R_far (p := ⟨gb191, 1, none⟩) (Kd.R_far (p := ⟨gb191, 0, none⟩) (Kd.R_types HO_201001.out BK191.out (by decide)) (fun _ hk => hk.2) (.bool y199)) (fun _ hk => hk.2) (.slice Ao112 x201001_13.length co112)) (fun _ hk => hk.2) (.slice Ao113 x201002_31.length co113)) (fun _ hk => hk.2) (.slice Ao114 x201003_4.length co114)) (fun _ hk => hk.1), by (with_reducible repeat (first | apply rA_ | apply rN_ | apply rD_)); exact Kd.R_mono (Kd.R_far (p := ⟨gb191, 3, none⟩) (Kd.R_far (p := ⟨gb191, 2, none⟩) (Kd.R_far (p := ⟨gb191, 1, none⟩) (Kd.R_far (p := ⟨gb191, 0, none⟩) (Kd.R_types HO_201002.out BK191.out (by decide)) (fun _ hk => hk.2) (.bool y199)) (fun _ hk => hk.2) (.slice Ao112 x201001_13.length co112)) (fun _ hk => hk.2) (.slice Ao113 x201002_31.length co113)) (fun _ hk => hk.2) (.slice Ao114 x201003_4.length co114)) (fun _ hk => hk.1), by (with_reducible repeat (first | apply rA_ | apply rN_ | apply rD_)); exact Kd.R_mono (Kd.R_far (p := ⟨gb191, 3, none⟩) (Kd.R_far (p := ⟨gb191, 2, none⟩) (Kd.R_far (p := ⟨gb191, 1, none⟩) (Kd.R_far (p := ⟨gb191, 0, none⟩) (Kd.R_types HO_201003.out BK191.out (by decide)) (fun _ hk => hk.2) (.bool y199)) (fun _ hk => hk.2) (.slice Ao112 x201001_13.length co112)) (fun _ hk => hk.2) (.slice Ao113 x201002_31.length co113)) (fun _ hk => hk.2) (.slice Ao114 x201003_4.length co114)) (fun _ hk => trivial), by repeat (first | (with_reducible first | exact HB.out | apply bA_ | apply bN_ | apply bD_ | refine bE_ ?_ (J98.ge HI192.out) | refine bE_ ?_ GE191.out | refine bE_ ?_ GE200.out) | exact HB.out)⟩
            ·replace c107 := Bool.eq_false_iff.mpr c107
             subst c107
             have H1 : (some (false, ([] : List ByteArray), ([] : List ByteArray), ([] : List Int), false)) = some (r1, r2, r3, r4, r5) := by rw [if_neg (show ¬ (false = true) by decide)] at H; exact H
             clear H
             have H := H1
             clear H1
             simp only [Option.some.injEq, Prod.mk.injEq] at H
             obtain ⟨rfl, rfl, rfl, rfl, rfl⟩ := H
             obtain ⟨ASz119_0, cSz119_0, HGz119, hgz119, HSz119_0, HLnz119_0⟩ := HI192.out
             have hcz119_0 := cellS98_0 HGz119
             have hcz119_1 := cellS98_1 HGz119
             have hcz119_2 := cellS98_2 HGz119
             have hfz119_1 := kF_ HGz119 1
             have hfz119_2 := kF_ HGz119 2
             clear HGz119 hgz119
             have hnb120 := NB200_191.out
             have hnc120 := NB191_200.out
             have hnb121 := NB200_192.out
             have hnc121 := NB192_200.out
             have hcz122_0 : wr.cell? ⟨gb200, 0, none⟩ = some (.bool y199) := (kC_ BK200.out 0).trans rfl
             have hcz122_1 : wr.cell? ⟨gb200, 1, none⟩ = some (u201001) := (kC_ BK200.out 1).trans rfl
             have hcz122_2 : wr.cell? ⟨gb200, 2, none⟩ = some (u201002) := (kC_ BK200.out 2).trans rfl
             have hcz122_3 : wr.cell? ⟨gb200, 3, none⟩ = some (u201003) := (kC_ BK200.out 3).trans rfl
             have hfz122_0 := kF_ BK200.out 0
             have hfz122_1 := kF_ BK200.out 1
             have hfz122_2 := kF_ BK200.out 2
             have hfz122_3 := kF_ BK200.out 3
             obtain ⟨Ao123, co123, eo123⟩ := Kd.R_slice HO_201001.out
             subst eo123
             obtain ⟨Ao124, co124, eo124⟩ := Kd.R_slice HO_201002.out
             subst eo124
             obtain ⟨Ao125, co125, eo125⟩ := Kd.R_slice HO_201003.out
             subst eo125
             go_wp2_with (first | (go_at_call 32; (with_reducible refine (spec_NodeOk.calls k4 y199 _ _ x201001_13 _ _ x201002_31 _ _ x201003_4 false _ ?side1 ?side2 ?side3 ?side4 ?side5 ?side6 A106.out).mono ?_); (case side1 => repeat (first | exact (Kd.R_reads' HO_201001.out).2.2 | (with_reducible refine cA_ ?_ _) | (with_reducible refine cN_ ?_ _) | (with_reducible refine cD_ ?_))); (case side2 => exact (Kd.R_reads' HO_201001.out).2.1); (case side3 => repeat (first | exact (Kd.R_reads' HO_201002.out).2.2 | (with_reducible refine cA_ ?_ _) | (with_reducible refine cN_ ?_ _) | (with_reducible refine cD_ ?_))); (case side4 => exact (Kd.R_reads' HO_201002.out).2.1); (case side5 => repeat (first | exact (Kd.R_reads' HO_201003.out).2.2 | (with_reducible refine cA_ ?_ _) | (with_reducible refine cN_ ?_ _) | (with_reducible refine cD_ ?_))); (case side6 => exact (Kd.R_reads' HO_201003.out).2.1); rintro e w126 ⟨rfl, hb⟩; have n0_ := aM_ (Kd.R_below (by (with_reducible repeat (first | apply rA_ | apply rN_ | apply rD_)); exact HO_201001.out) hb); have n1_ := aM_ (Kd.R_below (by (with_reducible repeat (first | apply rA_ | apply rN_ | apply rD_)); exact HO_201002.out) hb); have n2_ := aM_ (Kd.R_below (by (with_reducible repeat (first | apply rA_ | apply rN_ | apply rD_)); exact HO_201003.out) hb); have n3_ := aM_ (blk_below (g := gb191) (o := .cells #[.bool false, .slice none 0 0, .slice none 0 0, .slice none 0 0] 29 (0, 0)) (by (with_reducible repeat (first | refine kN_ ?_ _ | refine kD_ ?_ | refine kA_ ?_ _)); exact BK191.out) hb); have n4_ := aM_ (blk_below (g := gb200) (o := .cells #[.bool y199, .slice Ao123 x201001_13.length co123, .slice Ao124 x201002_31.length co124, .slice Ao125 x201003_4.length co125] 29 (0, 0)) (by (with_reducible repeat (first | refine kN_ ?_ _ | refine kD_ ?_ | refine kA_ ?_ _)); exact BK200.out) hb); have n5_ := aM_ (J98.below (by repeat (first | (with_reducible first | exact HI192.out | apply J98.alloc | apply J98.drewN | apply J98.drew | apply J98.set_1 | apply J98.set_2 | refine J98.far ?_ NB192_191.out _ | refine J98.far ?_ NB192_200.out _) | exact HI192.out)) hb); have n6_ := aM_ (bT_ (by repeat (first | (with_reducible first | exact HB.out | apply bA_ | apply bN_ | apply bD_ | refine bE_ ?_ (J98.ge HI192.out) | refine bE_ ?_ GE191.out | refine bE_ ?_ GE200.out) | exact HB.out)) hb); clear HO_201001; clear HO_201002; clear HO_201003; clear BK191; clear BK200; clear HI192; clear HB; have HO_201001 := n0_; have HO_201002 := n1_; have HO_201003 := n2_; have BK191 := n3_; have BK200 := n4_; have HI192 := n5_; have HB := n6_; clear n0_ n1_ n2_ n3_ n4_ n5_ n6_; (try clear hb); (try clear hb2); (try clear hk); (try clear hi); have hnb127 := NB191_192.out; have hnc127 := NB192_191.out; have hcz128_0 : w126.cell? ⟨gb191, 0, none⟩ = some (.bool false) := (kC_ BK191.out 0).trans rfl; have hcz128_1 : w126.cell? ⟨gb191, 1, none⟩ = some (.slice none 0 0) := (kC_ BK191.out 1).trans rfl; have hcz128_2 : w126.cell? ⟨gb191, 2, none⟩ = some (.slice none 0 0) := (kC_ BK191.out 2).trans rfl; have hcz128_3 : w126.cell? ⟨gb191, 3, none⟩ = some (.slice none 0 0) := (kC_ BK191.out 3).trans rfl; have hfz128_0 := kF_ BK191.out 0; have hfz128_1 := kF_ BK191.out 1; have hfz128_2 := kF_ BK191.out 2; have hfz128_3 := kF_ BK191.out 3))
             refine bodyPost_ret (results_ct rfl _ _ gb191 29 #[.bool false, .slice none 0 0, .slice none 0 0, .slice none 0 0] (0, 0) _ rfl (by (with_reducible repeat (first | refine kN_ ?_ _ | refine kD_ ?_ | refine kA_ ?_ _)); refine kP_ (cs := #[.bool false, .slice none 0 0, .slice none 0 0, .slice none 0 0]) ?_ 3 _ rfl; (with_reducible repeat (first | refine kN_ ?_ _ | refine kD_ ?_ | refine kA_ ?_ _)); refine kP_ (cs := #[.bool false, .slice none 0 0, .slice none 0 0, .slice none 0 0]) ?_ 2 _ rfl; (with_reducible repeat (first | refine kN_ ?_ _ | refine kD_ ?_ | refine kA_ ?_ _)); refine kP_ (cs := #[.bool false, .slice none 0 0, .slice none 0 0, .slice none 0 0]) ?_ 1 _ rfl; (with_reducible repeat (first | refine kN_ ?_ _ | refine kD_ ?_ | refine kA_ ?_ _)); refine kP_ (cs := #[.bool false, .slice none 0 0, .slice none 0 0, .slice none 0 0]) ?_ 0 _ rfl; (with_reducible repeat (first | refine kN_ ?_ _ | refine kD_ ?_ | refine kA_ ?_ _)); exact BK191.out) Try.underlying29 rfl (by kernel_rfl)) rfl ?_
             exact ⟨_, _, _, by first | rfl | (simp [errW_none, errW_some] <;> rfl) | (simp [*, errW_none, errW_some] <;> rfl), by first | exact Kd.R_nil _ _ _ _ _ | exact Kd.N_nil _ _ _ _ _ | exact Kd.V_nil _ _ _ _ _ | exact Kd.Q_nil _ _ _ _ _ | exact Kd.S_nil _ _ _ _ _, by first | exact Kd.R_nil _ _ _ _ _ | exact Kd.N_nil _ _ _ _ _ | exact Kd.V_nil _ _ _ _ _ | exact Kd.Q_nil _ _ _ _ _ | exact Kd.S_nil _ _ _ _ _, by first | exact Kd.R_nil _ _ _ _ _ | exact Kd.N_nil _ _ _ _ _ | exact Kd.V_nil _ _ _ _ _ | exact Kd.Q_nil _ _ _ _ _ | exact Kd.S_nil _ _ _ _ _, by repeat (first | (with_reducible first | exact HB.out | apply bA_ | apply bN_ | apply bD_ | refine bE_ ?_ (J98.ge HI192.out) | refine bE_ ?_ GE191.out | refine bE_ ?_ GE200.out) | exact HB.out)⟩
           ·rw [if_neg c105] at H
            have c105b0 : (x193001_4 == (l0.length : Int)) = false := beq_eq_false_iff_ne.mpr c105
            have c105b1 : (x193001_4 != (l0.length : Int)) = true := bne_iff_ne.mpr c105
            simp only [Option.some.injEq, Prod.mk.injEq] at H
            obtain ⟨rfl, rfl, rfl, rfl, rfl⟩ := H
            obtain ⟨ASz129_0, cSz129_0, HGz129, hgz129, HSz129_0, HLnz129_0⟩ := HI192.out
            have hcz129_0 := cellS98_0 HGz129
            have hcz129_1 := cellS98_1 HGz129
            have hcz129_2 := cellS98_2 HGz129
            have hfz129_1 := kF_ HGz129 1
            have hfz129_2 := kF_ HGz129 2
            clear HGz129 hgz129
            have hnb130 := NB191_200.out
            have hnc130 := NB200_191.out
            have hnb131 := NB191_192.out
            have hnc131 := NB192_191.out
            have hcz132_0 : wr.cell? ⟨gb191, 0, none⟩ = some (.bool false) := (kC_ BK191.out 0).trans rfl
            have hcz132_1 : wr.cell? ⟨gb191, 1, none⟩ = some (.slice none 0 0) := (kC_ BK191.out 1).trans rfl
            have hcz132_2 : wr.cell? ⟨gb191, 2, none⟩ = some (.slice none 0 0) := (kC_ BK191.out 2).trans rfl
            have hcz132_3 : wr.cell? ⟨gb191, 3, none⟩ = some (.slice none 0 0) := (kC_ BK191.out 3).trans rfl
            have hfz132_0 := kF_ BK191.out 0
            have hfz132_1 := kF_ BK191.out 1
            have hfz132_2 := kF_ BK191.out 2
            have hfz132_3 := kF_ BK191.out 3
            go_wp2
            refine bodyPost_ret (results_ct rfl _ _ gb191 29 #[.bool false, .slice none 0 0, .slice none 0 0, .slice none 0 0] (0, 0) _ rfl (by (with_reducible repeat (first | refine kN_ ?_ _ | refine kD_ ?_ | refine kA_ ?_ _)); refine kP_ (cs := #[.bool false, .slice none 0 0, .slice none 0 0, .slice none 0 0]) ?_ 3 _ rfl; (with_reducible repeat (first | refine kN_ ?_ _ | refine kD_ ?_ | refine kA_ ?_ _)); refine kP_ (cs := #[.bool false, .slice none 0 0, .slice none 0 0, .slice none 0 0]) ?_ 2 _ rfl; (with_reducible repeat (first | refine kN_ ?_ _ | refine kD_ ?_ | refine kA_ ?_ _)); refine kP_ (cs := #[.bool false, .slice none 0 0, .slice none 0 0, .slice none 0 0]) ?_ 1 _ rfl; (with_reducible repeat (first | refine kN_ ?_ _ | refine kD_ ?_ | refine kA_ ?_ _)); refine kP_ (cs := #[.bool false, .slice none 0 0, .slice none 0 0, .slice none 0 0]) ?_ 0 _ rfl; (with_reducible repeat (first | refine kN_ ?_ _ | refine kD_ ?_ | refine kA_ ?_ _)); exact BK191.out) Try.underlying29 rfl (by kernel_rfl)) rfl ?_
            exact ⟨_, _, _, by first | rfl | (simp [errW_none, errW_some] <;> rfl) | (simp [*, errW_none, errW_some] <;> rfl), by first | exact Kd.R_nil _ _ _ _ _ | exact Kd.N_nil _ _ _ _ _ | exact Kd.V_nil _ _ _ _ _ | exact Kd.Q_nil _ _ _ _ _ | exact Kd.S_nil _ _ _ _ _, by first | exact Kd.R_nil _ _ _ _ _ | exact Kd.N_nil _ _ _ _ _ | exact Kd.V_nil _ _ _ _ _ | exact Kd.Q_nil _ _ _ _ _ | exact Kd.S_nil _ _ _ _ _, by first | exact Kd.R_nil _ _ _ _ _ | exact Kd.N_nil _ _ _ _ _ | exact Kd.V_nil _ _ _ _ _ | exact Kd.Q_nil _ _ _ _ _ | exact Kd.S_nil _ _ _ _ _, by repeat (first | (with_reducible first | exact HB.out | apply bA_ | apply bN_ | apply bD_ | refine bE_ ?_ (J98.ge HI192.out) | refine bE_ ?_ GE191.out | refine bE_ ?_ GE200.out) | exact HB.out)⟩

end Go.Proofs.Ytllgmgpfdnofmaa.PFnExactGetNode
