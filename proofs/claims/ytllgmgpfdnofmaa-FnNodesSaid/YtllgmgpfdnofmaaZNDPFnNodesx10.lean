import Derived.Test.YtllgmgpfdnofmaaZNDPFnNodesx0
import Derived.Test.YtllgmgpfdnofmaaZNDPFnNodesx1
import Derived.Test.YtllgmgpfdnofmaaZNDPFnNodesx2
import Derived.Test.YtllgmgpfdnofmaaZNDPFnNodesx9
namespace Go.Proofs.Ytllgmgpfdnofmaa.PFnNodes
open Go.RowKit Go.Proofs.YtllgmgpfdnofmaaW.PrintWords Go.Proofs.YtllgmgpfdnofmaaW.PrintLast Go.Proofs.YtllgmgpfdnofmaaW.PrintMore Go.Proofs.Ytllgmgpfdnofmaa.Xtra
attribute [local go_sem] max2_int min2_int max_two min_two max_three min_three max_four min_four str_leq str_gtr str_geq setCell_drewN cell_set2 cell_set3   -- for this text's walks alone
set_option linter.unusedVariables false
set_option linter.unusedSimpArgs false
mutual
def impl_GetNode.j0 : Nat → List Int → Int → Int → Bool → Int → Option (Bool × List ByteArray × List ByteArray × List Int × Bool)
 | 0,_,_,_,_,_=>none
 | k + 1,x0,x4,x5,x6,x7=>impl_GetNode.l0 k x0 x5 x6 x7 0 ((x4 == 1)) ([] : List ByteArray)
def impl_GetNode.j2 : Nat → List Int → Int → Bool → Int → Bool → List ByteArray → Option (Bool × List ByteArray × List ByteArray × List Int × Bool)
 | 0,_,_,_,_,_,_=>none
 | k + 1,x0,x5,x6,x7,x265000,x265001=>impl_GetNode.l1 k x0 x5 x6 x7 0 x265000 x265001 ([] : List ByteArray)
def impl_GetNode.j4 : Nat → List Int → Int → Bool → Int → Bool → List ByteArray → List ByteArray → Option (Bool × List ByteArray × List ByteArray × List Int × Bool)
 | 0,_,_,_,_,_,_,_=>none
 | k + 1,x0,x5,x6,x7,x265000,x265001,x265002=>impl_GetNode.l2 k x0 x5 x6 x7 0 x265000 x265001 x265002 ([] : List Int)
def impl_GetNode.l2 : Nat → List Int → Int → Bool → Int → Int → Bool → List ByteArray → List ByteArray → List Int → Option (Bool × List ByteArray × List ByteArray × List Int × Bool)
 | 0,_,_,_,_,_,_,_,_,_=>none
 | k + 1,x0,x5,x6,x7,x14,x265000,x265001,x265002,x265003=>if x6 = true then (if x265000 = true then ((impl_PutNode.f k x265000 x265001 x265002 x265003).bind fun t277=>(if (t277.length : Int) = 0 then (some (false,([] : List ByteArray),([] : List ByteArray),([] : List Int),false)) else (if (strOfNums t277).toList = (strOfNums x0).toList then (some (x265000,x265001,x265002,x265003,true)) else (some (false,([] : List ByteArray),([] : List ByteArray),([] : List Int),false))))) else (if x14 ≤ x7 then ((impl_GetU.f k x0 x5).bind fun bt280=>(if x265003.length < 17592186044416 then (impl_GetNode.l2 k x0 bt280.2.1 bt280.2.2 x7 (wrap64 (x14 + 1)) x265000 x265001 x265002 (x265003 ++ [bt280.1])) else (none))) else ((impl_PutNode.f k x265000 x265001 x265002 x265003).bind fun t286=>(if (t286.length : Int) = 0 then (some (false,([] : List ByteArray),([] : List ByteArray),([] : List Int),false)) else (if (strOfNums t286).toList = (strOfNums x0).toList then (some (x265000,x265001,x265002,x265003,true)) else (some (false,([] : List ByteArray),([] : List ByteArray),([] : List Int),false))))))) else ((impl_PutNode.f k x265000 x265001 x265002 x265003).bind fun t289=>(some (false,([] : List ByteArray),([] : List ByteArray),([] : List Int),false)))
def impl_GetNode.l1 : Nat → List Int → Int → Bool → Int → Int → Bool → List ByteArray → List ByteArray → Option (Bool × List ByteArray × List ByteArray × List Int × Bool)
 | 0,_,_,_,_,_,_,_,_=>none
 | k + 1,x0,x5,x6,x7,x12,x265000,x265001,x265002=>if x6 = true then (if x265000 = true then (if x12 < x7 then ((impl_GetText.f k x0 x5).bind fun bt271=>(if x265002.length < 8796093022208 then (impl_GetNode.l1 k x0 bt271.2.1 bt271.2.2 x7 (wrap64 (x12 + 1)) x265000 x265001 (x265002 ++ [bt271.1])) else (none))) else (impl_GetNode.j4 k x0 x5 x6 x7 x265000 x265001 x265002)) else (impl_GetNode.j4 k x0 x5 x6 x7 x265000 x265001 x265002)) else (impl_GetNode.j4 k x0 x5 x6 x7 x265000 x265001 x265002)
def impl_GetNode.l0 : Nat → List Int → Int → Bool → Int → Int → Bool → List ByteArray → Option (Bool × List ByteArray × List ByteArray × List Int × Bool)
 | 0,_,_,_,_,_,_,_=>none
 | k + 1,x0,x5,x6,x7,x10,x265000,x265001=>if x6 = true then (if x10 < x7 then ((impl_GetText.f k x0 x5).bind fun bt265=>(if x265001.length < 8796093022208 then (impl_GetNode.l0 k x0 bt265.2.1 bt265.2.2 x7 (wrap64 (x10 + 1)) x265000 (x265001 ++ [bt265.1])) else (none))) else (impl_GetNode.j2 k x0 x5 x6 x7 x265000 x265001)) else (impl_GetNode.j2 k x0 x5 x6 x7 x265000 x265001)
end
def impl_GetNode.f (k : Nat) (l0 : List Int) : Option (Bool × List ByteArray × List ByteArray × List Int × Bool):=if (l0.length : Int) > 240 then (some (false,([] : List ByteArray),([] : List ByteArray),([] : List Int),false)) else ((impl_GetU.f k l0 0).bind fun bt256=>((impl_GetU.f k l0 bt256.2.1).bind fun bt259=>(if bt256.2.2 = true then (if bt259.2.2 = true then ((impl_in.f bt256.1 0 1).bind fun t262=>(if t262 = true then (impl_GetNode.j0 k l0 bt256.1 bt259.2.1 (decide (bt259.1 ≤ 240)) bt259.1) else (impl_GetNode.j0 k l0 bt256.1 bt259.2.1 false bt259.1))) else (impl_GetNode.j0 k l0 bt256.1 bt259.2.1 false bt259.1)) else (impl_GetNode.j0 k l0 bt256.1 bt259.2.1 false bt259.1))))
theorem impl_GetNode.mono_l : ∀ k,(∀ y0 y1 y2 y3 y4,LeO (impl_GetNode.j0 k y0 y1 y2 y3 y4) (impl_GetNode.j0 (k + 1) y0 y1 y2 y3 y4)) ∧ (∀ y0 y1 y2 y3 y4 y5,LeO (impl_GetNode.j2 k y0 y1 y2 y3 y4 y5) (impl_GetNode.j2 (k + 1) y0 y1 y2 y3 y4 y5)) ∧ (∀ y0 y1 y2 y3 y4 y5 y6,LeO (impl_GetNode.j4 k y0 y1 y2 y3 y4 y5 y6) (impl_GetNode.j4 (k + 1) y0 y1 y2 y3 y4 y5 y6)) ∧ (∀ y0 y1 y2 y3 y4 y5 y6 y7 y8,LeO (impl_GetNode.l2 k y0 y1 y2 y3 y4 y5 y6 y7 y8) (impl_GetNode.l2 (k + 1) y0 y1 y2 y3 y4 y5 y6 y7 y8)) ∧ (∀ y0 y1 y2 y3 y4 y5 y6 y7,LeO (impl_GetNode.l1 k y0 y1 y2 y3 y4 y5 y6 y7) (impl_GetNode.l1 (k + 1) y0 y1 y2 y3 y4 y5 y6 y7)) ∧ (∀ y0 y1 y2 y3 y4 y5 y6,LeO (impl_GetNode.l0 k y0 y1 y2 y3 y4 y5 y6) (impl_GetNode.l0 (k + 1) y0 y1 y2 y3 y4 y5 y6))
 | 0=>⟨fun _ _ _ _ _ r h=>by simp [impl_GetNode.j0] at h,fun _ _ _ _ _ _ r h=>by simp [impl_GetNode.j2] at h,fun _ _ _ _ _ _ _ r h=>by simp [impl_GetNode.j4] at h,fun _ _ _ _ _ _ _ _ _ r h=>by simp [impl_GetNode.l2] at h,fun _ _ _ _ _ _ _ _ r h=>by simp [impl_GetNode.l1] at h,fun _ _ _ _ _ _ _ r h=>by simp [impl_GetNode.l0] at h⟩
 | k + 1=>by
  obtain ⟨ih0,ih1,ih2,ih3,ih4,ih5⟩:=impl_GetNode.mono_l k
  refine ⟨?_,?_,?_,?_,?_,?_⟩
  ·intro y0 y1 y2 y3 y4
   unfold impl_GetNode.j0
   repeat' first
   | (with_reducible exact ih0 _ _ _ _ _)
   | (with_reducible exact ih1 _ _ _ _ _ _)
   | (with_reducible exact ih2 _ _ _ _ _ _ _)
   | (with_reducible exact ih3 _ _ _ _ _ _ _ _ _)
   | (with_reducible exact ih4 _ _ _ _ _ _ _ _)
   | (with_reducible exact ih5 _ _ _ _ _ _ _)
   | (with_reducible exact impl_GetText.mono _ _ _)
   | (with_reducible exact impl_GetU.mono _ _ _)
   | (with_reducible exact impl_PutNode.mono _ _ _ _ _)
   | (with_reducible exact LeO.refl _)
   | (with_reducible exact LeO.none _)
   | (with_reducible refine LeO.ite ?_ ?_)
   | (with_reducible refine LeO.bind ?_ (fun _=>?_))
   | exact ih0 _ _ _ _ _
   | exact ih1 _ _ _ _ _ _
   | exact ih2 _ _ _ _ _ _ _
   | exact ih3 _ _ _ _ _ _ _ _ _
   | exact ih4 _ _ _ _ _ _ _ _
   | exact ih5 _ _ _ _ _ _ _
   | exact impl_GetText.mono _ _ _
   | exact impl_GetU.mono _ _ _
   | exact impl_PutNode.mono _ _ _ _ _
   | exact LeO.none _
   | refine LeO.ite ?_ ?_
   | refine LeO.bind ?_ (fun _=>?_)
  ·intro y0 y1 y2 y3 y4 y5
   unfold impl_GetNode.j2
   repeat' first
   | (with_reducible exact ih0 _ _ _ _ _)
   | (with_reducible exact ih1 _ _ _ _ _ _)
   | (with_reducible exact ih2 _ _ _ _ _ _ _)
   | (with_reducible exact ih3 _ _ _ _ _ _ _ _ _)
   | (with_reducible exact ih4 _ _ _ _ _ _ _ _)
   | (with_reducible exact ih5 _ _ _ _ _ _ _)
   | (with_reducible exact impl_GetText.mono _ _ _)
   | (with_reducible exact impl_GetU.mono _ _ _)
   | (with_reducible exact impl_PutNode.mono _ _ _ _ _)
   | (with_reducible exact LeO.refl _)
   | (with_reducible exact LeO.none _)
   | (with_reducible refine LeO.ite ?_ ?_)
   | (with_reducible refine LeO.bind ?_ (fun _=>?_))
   | exact ih0 _ _ _ _ _
   | exact ih1 _ _ _ _ _ _
   | exact ih2 _ _ _ _ _ _ _
   | exact ih3 _ _ _ _ _ _ _ _ _
   | exact ih4 _ _ _ _ _ _ _ _
   | exact ih5 _ _ _ _ _ _ _
   | exact impl_GetText.mono _ _ _
   | exact impl_GetU.mono _ _ _
   | exact impl_PutNode.mono _ _ _ _ _
   | exact LeO.none _
   | refine LeO.ite ?_ ?_
   | refine LeO.bind ?_ (fun _=>?_)
  ·intro y0 y1 y2 y3 y4 y5 y6
   unfold impl_GetNode.j4
   repeat' first
   | (with_reducible exact ih0 _ _ _ _ _)
   | (with_reducible exact ih1 _ _ _ _ _ _)
   | (with_reducible exact ih2 _ _ _ _ _ _ _)
   | (with_reducible exact ih3 _ _ _ _ _ _ _ _ _)
   | (with_reducible exact ih4 _ _ _ _ _ _ _ _)
   | (with_reducible exact ih5 _ _ _ _ _ _ _)
   | (with_reducible exact impl_GetText.mono _ _ _)
   | (with_reducible exact impl_GetU.mono _ _ _)
   | (with_reducible exact impl_PutNode.mono _ _ _ _ _)
   | (with_reducible exact LeO.refl _)
   | (with_reducible exact LeO.none _)
   | (with_reducible refine LeO.ite ?_ ?_)
   | (with_reducible refine LeO.bind ?_ (fun _=>?_))
   | exact ih0 _ _ _ _ _
   | exact ih1 _ _ _ _ _ _
   | exact ih2 _ _ _ _ _ _ _
   | exact ih3 _ _ _ _ _ _ _ _ _
   | exact ih4 _ _ _ _ _ _ _ _
   | exact ih5 _ _ _ _ _ _ _
   | exact impl_GetText.mono _ _ _
   | exact impl_GetU.mono _ _ _
   | exact impl_PutNode.mono _ _ _ _ _
   | exact LeO.none _
   | refine LeO.ite ?_ ?_
   | refine LeO.bind ?_ (fun _=>?_)
  ·intro y0 y1 y2 y3 y4 y5 y6 y7 y8
   unfold impl_GetNode.l2
   repeat' first
   | (with_reducible exact ih0 _ _ _ _ _)
   | (with_reducible exact ih1 _ _ _ _ _ _)
   | (with_reducible exact ih2 _ _ _ _ _ _ _)
   | (with_reducible exact ih3 _ _ _ _ _ _ _ _ _)
   | (with_reducible exact ih4 _ _ _ _ _ _ _ _)
   | (with_reducible exact ih5 _ _ _ _ _ _ _)
   | (with_reducible exact impl_GetText.mono _ _ _)
   | (with_reducible exact impl_GetU.mono _ _ _)
   | (with_reducible exact impl_PutNode.mono _ _ _ _ _)
   | (with_reducible exact LeO.refl _)
   | (with_reducible exact LeO.none _)
   | (with_reducible refine LeO.ite ?_ ?_)
   | (with_reducible refine LeO.bind ?_ (fun _=>?_))
   | exact ih0 _ _ _ _ _
   | exact ih1 _ _ _ _ _ _
   | exact ih2 _ _ _ _ _ _ _
   | exact ih3 _ _ _ _ _ _ _ _ _
   | exact ih4 _ _ _ _ _ _ _ _
   | exact ih5 _ _ _ _ _ _ _
   | exact impl_GetText.mono _ _ _
   | exact impl_GetU.mono _ _ _
   | exact impl_PutNode.mono _ _ _ _ _
   | exact LeO.none _
   | refine LeO.ite ?_ ?_
   | refine LeO.bind ?_ (fun _=>?_)
  ·intro y0 y1 y2 y3 y4 y5 y6 y7
   unfold impl_GetNode.l1
   repeat' first
   | (with_reducible exact ih0 _ _ _ _ _)
   | (with_reducible exact ih1 _ _ _ _ _ _)
   | (with_reducible exact ih2 _ _ _ _ _ _ _)
   | (with_reducible exact ih3 _ _ _ _ _ _ _ _ _)
   | (with_reducible exact ih4 _ _ _ _ _ _ _ _)
   | (with_reducible exact ih5 _ _ _ _ _ _ _)
   | (with_reducible exact impl_GetText.mono _ _ _)
   | (with_reducible exact impl_GetU.mono _ _ _)
   | (with_reducible exact impl_PutNode.mono _ _ _ _ _)
   | (with_reducible exact LeO.refl _)
   | (with_reducible exact LeO.none _)
   | (with_reducible refine LeO.ite ?_ ?_)
   | (with_reducible refine LeO.bind ?_ (fun _=>?_))
   | exact ih0 _ _ _ _ _
   | exact ih1 _ _ _ _ _ _
   | exact ih2 _ _ _ _ _ _ _
   | exact ih3 _ _ _ _ _ _ _ _ _
   | exact ih4 _ _ _ _ _ _ _ _
   | exact ih5 _ _ _ _ _ _ _
   | exact impl_GetText.mono _ _ _
   | exact impl_GetU.mono _ _ _
   | exact impl_PutNode.mono _ _ _ _ _
   | exact LeO.none _
   | refine LeO.ite ?_ ?_
   | refine LeO.bind ?_ (fun _=>?_)
  ·intro y0 y1 y2 y3 y4 y5 y6
   unfold impl_GetNode.l0
   repeat' first
   | (with_reducible exact ih0 _ _ _ _ _)
   | (with_reducible exact ih1 _ _ _ _ _ _)
   | (with_reducible exact ih2 _ _ _ _ _ _ _)
   | (with_reducible exact ih3 _ _ _ _ _ _ _ _ _)
   | (with_reducible exact ih4 _ _ _ _ _ _ _ _)
   | (with_reducible exact ih5 _ _ _ _ _ _ _)
   | (with_reducible exact impl_GetText.mono _ _ _)
   | (with_reducible exact impl_GetU.mono _ _ _)
   | (with_reducible exact impl_PutNode.mono _ _ _ _ _)
   | (with_reducible exact LeO.refl _)
   | (with_reducible exact LeO.none _)
   | (with_reducible refine LeO.ite ?_ ?_)
   | (with_reducible refine LeO.bind ?_ (fun _=>?_))
   | exact ih0 _ _ _ _ _
   | exact ih1 _ _ _ _ _ _
   | exact ih2 _ _ _ _ _ _ _
   | exact ih3 _ _ _ _ _ _ _ _ _
   | exact ih4 _ _ _ _ _ _ _ _
   | exact ih5 _ _ _ _ _ _ _
   | exact impl_GetText.mono _ _ _
   | exact impl_GetU.mono _ _ _
   | exact impl_PutNode.mono _ _ _ _ _
   | exact LeO.none _
   | refine LeO.ite ?_ ?_
   | refine LeO.bind ?_ (fun _=>?_)
theorem impl_GetNode.mono : ∀ a0 k,LeO (impl_GetNode.f k a0) (impl_GetNode.f (k + 1) a0):=by
 intro a0 k
 obtain ⟨ih0,ih1,ih2,ih3,ih4,ih5⟩:=impl_GetNode.mono_l k
 unfold impl_GetNode.f
 repeat' first
   | (with_reducible exact ih0 _ _ _ _ _)
   | (with_reducible exact ih1 _ _ _ _ _ _)
   | (with_reducible exact ih2 _ _ _ _ _ _ _)
   | (with_reducible exact ih3 _ _ _ _ _ _ _ _ _)
   | (with_reducible exact ih4 _ _ _ _ _ _ _ _)
   | (with_reducible exact ih5 _ _ _ _ _ _ _)
   | (with_reducible exact impl_GetText.mono _ _ _)
   | (with_reducible exact impl_GetU.mono _ _ _)
   | (with_reducible exact impl_PutNode.mono _ _ _ _ _)
   | (with_reducible exact LeO.refl _)
   | (with_reducible exact LeO.none _)
   | (with_reducible refine LeO.ite ?_ ?_)
   | (with_reducible refine LeO.bind ?_ (fun _=>?_))
   | exact ih0 _ _ _ _ _
   | exact ih1 _ _ _ _ _ _
   | exact ih2 _ _ _ _ _ _ _
   | exact ih3 _ _ _ _ _ _ _ _ _
   | exact ih4 _ _ _ _ _ _ _ _
   | exact ih5 _ _ _ _ _ _ _
   | exact impl_GetText.mono _ _ _
   | exact impl_GetU.mono _ _ _
   | exact impl_PutNode.mono _ _ _ _ _
   | exact LeO.none _
   | refine LeO.ite ?_ ?_
   | refine LeO.bind ?_ (fun _=>?_)
set_option maxHeartbeats 8000000 in
set_option maxRecDepth 100000 in
theorem impl_GetNode.calls (k : Nat) (A0 : Option Addr) (c0 : Nat) (l0 : List Int) (r1 : Bool) (r2 : List ByteArray) (r3 : List ByteArray) (r4 : List Int) (r5 : Bool) (w : World) (hr0 : Kd.C (Kd.int .u8) w A0 l0.length l0) (hc0 : l0.length ≤ c0) (h : impl_GetNode.f k l0 = some (r1,r2,r3,r4,r5)) :
  Calls Try.prog 23 #[.slice A0 l0.length c0] w fun e w'=>∃ v1_ v2_ v3_ : Value,e = .returned (.tuple #[.agg #[.bool r1,v1_,v2_,v3_],.bool r5]) ∧ Kd.R Kd.string 9 w' w.heap.size (fun k_=>some k_ ≠ (v2_ : Value).ownBlock) v1_ r2 ∧ Kd.R Kd.string 9 w' w.heap.size (fun k_=>some k_ ≠ (v1_ : Value).ownBlock) v2_ r3 ∧ Kd.R (Kd.int .i64) 3 w' w.heap.size (fun _=>True) v3_ r4 ∧ Below w.heap.size w w':=by
 have hu29:=Try.underlying29
 have HR0:=aM_ hr0
 have HC0:=aM_ hc0
 clear hr0 hc0
 have HB:=aM_ (Below.refl w.heap.size w)
 have H : (if (l0.length : Int) > 240 then (some (false,([] : List ByteArray),([] : List ByteArray),([] : List Int),false)) else ((impl_GetU.f k l0 0).bind fun bt256=>((impl_GetU.f k l0 bt256.2.1).bind fun bt259=>(if bt256.2.2 = true then (if bt259.2.2 = true then ((impl_in.f bt256.1 0 1).bind fun t262=>(if t262 = true then (impl_GetNode.j0 k l0 bt256.1 bt259.2.1 (decide (bt259.1 ≤ 240)) bt259.1) else (impl_GetNode.j0 k l0 bt256.1 bt259.2.1 false bt259.1))) else (impl_GetNode.j0 k l0 bt256.1 bt259.2.1 false bt259.1)) else (impl_GetNode.j0 k l0 bt256.1 bt259.2.1 false bt259.1))))) = some (r1,r2,r3,r4,r5):=h
 clear h
 by_cases c2 : (l0.length : Int) > 240
 ·rw [if_pos c2] at H
  have c2b0 : decide (240 < (l0.length : Int)) = true:=decide_eq_true c2
  have c2b1 : decide (240 < l0.length) = true:=decide_eq_true (by omega)
  clear c2
  simp only [Option.some.injEq,Prod.mk.injEq] at H
  obtain ⟨rfl,rfl,rfl,rfl,rfl⟩:=H
  go_enter Try.func23,Try.ntmps23
  go_wp2_with (first | ((with_reducible refine gate_dst (N:=2) rfl ?_);(try (refine gate_guard (by rfl) ?_;dsimp only));refine box_event ?hg (N:=2) ?hd (cs:=#[.bool false,.slice none 0 0,.slice none 0 0,.slice none 0 0]) (t:=29) ?hr ?_;(case hd=>rfl);(case hg=>rfl);(case hr=>first | (go_simp;done) | (go_simp;rfl));intro gb255 hg w3 hbox hb;have n0_:=aM_ (bT_ (by exact bZ_ HB) hb);have n1_:=aM_ (hbox);have n2_:=aM_ ((by rw [hg];exact (bS_ (by exact bZ_ HB)) : w.heap.size ≤ gb255));have n3_:=aM_ ((by rw [hg];exact (bS_ (by exact bZ_ HB)) : w.heap.size ≤ gb255));clear HB;have HB:=n0_;have BK255:=n1_;have GW255:=n2_;have GE255:=n3_;clear n0_ n1_ n2_ n3_ hb hbox hg;have hcz4_0 : w3.cell? ⟨gb255,0,none⟩ = some (.bool false):=(kC_ BK255.out 0).trans rfl;have hcz4_1 : w3.cell? ⟨gb255,1,none⟩ = some (.slice none 0 0):=(kC_ BK255.out 1).trans rfl;have hcz4_2 : w3.cell? ⟨gb255,2,none⟩ = some (.slice none 0 0):=(kC_ BK255.out 2).trans rfl;have hcz4_3 : w3.cell? ⟨gb255,3,none⟩ = some (.slice none 0 0):=(kC_ BK255.out 3).trans rfl;have hfz4_0:=kF_ BK255.out 0;have hfz4_1:=kF_ BK255.out 1;have hfz4_2:=kF_ BK255.out 2;have hfz4_3:=kF_ BK255.out 3))
  refine bodyPost_ret (results_ct rfl _ _ gb255 29 #[.bool false,.slice none 0 0,.slice none 0 0,.slice none 0 0] (0,0) _ rfl (by (with_reducible repeat (first | refine kN_ ?_ _ | refine kD_ ?_ | refine kA_ ?_ _));refine kP_ (cs:=#[.bool false,.slice none 0 0,.slice none 0 0,.slice none 0 0]) ?_ 3 _ rfl;(with_reducible repeat (first | refine kN_ ?_ _ | refine kD_ ?_ | refine kA_ ?_ _));refine kP_ (cs:=#[.bool false,.slice none 0 0,.slice none 0 0,.slice none 0 0]) ?_ 2 _ rfl;(with_reducible repeat (first | refine kN_ ?_ _ | refine kD_ ?_ | refine kA_ ?_ _));refine kP_ (cs:=#[.bool false,.slice none 0 0,.slice none 0 0,.slice none 0 0]) ?_ 1 _ rfl;(with_reducible repeat (first | refine kN_ ?_ _ | refine kD_ ?_ | refine kA_ ?_ _));refine kP_ (cs:=#[.bool false,.slice none 0 0,.slice none 0 0,.slice none 0 0]) ?_ 0 _ rfl;exact kZ_ BK255) Try.underlying29 rfl (by kernel_rfl)) rfl ?_
  exact ⟨_,_,_,by first | rfl | (simp [errW_none,errW_some] <;> rfl) | (simp [*, errW_none,errW_some] <;> rfl),by first | exact Kd.R_nil _ _ _ _ _ | exact Kd.N_nil _ _ _ _ _ | exact Kd.V_nil _ _ _ _ _ | exact Kd.Q_nil _ _ _ _ _ | exact Kd.S_nil _ _ _ _ _,by first | exact Kd.R_nil _ _ _ _ _ | exact Kd.N_nil _ _ _ _ _ | exact Kd.V_nil _ _ _ _ _ | exact Kd.Q_nil _ _ _ _ _ | exact Kd.S_nil _ _ _ _ _,by first | exact Kd.R_nil _ _ _ _ _ | exact Kd.N_nil _ _ _ _ _ | exact Kd.V_nil _ _ _ _ _ | exact Kd.Q_nil _ _ _ _ _ | exact Kd.S_nil _ _ _ _ _,by exact bZ_ HB⟩
 ·rw [if_neg c2] at H
  have c2b0 : decide (240 < (l0.length : Int)) = false:=decide_eq_false c2
  have c2b1 : decide (240 < l0.length) = false:=decide_eq_false (by omega)
  clear c2
  replace H:=oB_ H
  obtain ⟨⟨t256,t257,t258⟩,A50,H⟩:=H
  replace H : ((impl_GetU.f k l0 t257).bind fun bt259=>(if t258 = true then (if bt259.2.2 = true then ((impl_in.f t256 0 1).bind fun t262=>(if t262 = true then (impl_GetNode.j0 k l0 t256 bt259.2.1 (decide (bt259.1 ≤ 240)) bt259.1) else (impl_GetNode.j0 k l0 t256 bt259.2.1 false bt259.1))) else (impl_GetNode.j0 k l0 t256 bt259.2.1 false bt259.1)) else (impl_GetNode.j0 k l0 t256 bt259.2.1 false bt259.1))) = some (r1,r2,r3,r4,r5):=H
  have A5:=aM_ A50
  clear A50
  replace H:=oB_ H
  obtain ⟨⟨t259,t260,t261⟩,A60,H⟩:=H
  replace H : (if t258 = true then (if t261 = true then ((impl_in.f t256 0 1).bind fun t262=>(if t262 = true then (impl_GetNode.j0 k l0 t256 t260 (decide (t259 ≤ 240)) t259) else (impl_GetNode.j0 k l0 t256 t260 false t259))) else (impl_GetNode.j0 k l0 t256 t260 false t259)) else (impl_GetNode.j0 k l0 t256 t260 false t259)) = some (r1,r2,r3,r4,r5):=H
  have A6:=aM_ A60
  clear A60
  have HC7:=aM_ H
  clear H
  go_enter Try.func23,Try.ntmps23
  go_upto_region 5 with (first | ((with_reducible refine gate_dst (N:=2) rfl ?_);(try (refine gate_guard (by rfl) ?_;dsimp only));refine box_event ?hg (N:=2) ?hd (cs:=#[.bool false,.slice none 0 0,.slice none 0 0,.slice none 0 0]) (t:=29) ?hr ?_;(case hd=>rfl);(case hg=>rfl);(case hr=>first | (go_simp;done) | (go_simp;rfl));intro gb255 hg w8 hbox hb;have n0_:=aM_ (bT_ (by exact bZ_ HB) hb);have n1_:=aM_ (hbox);have n2_:=aM_ ((by rw [hg];exact (bS_ (by exact bZ_ HB)) : w.heap.size ≤ gb255));have n3_:=aM_ ((by rw [hg];exact (bS_ (by exact bZ_ HB)) : w.heap.size ≤ gb255));clear HB;have HB:=n0_;have BK255:=n1_;have GW255:=n2_;have GE255:=n3_;clear n0_ n1_ n2_ n3_ hb hbox hg) | ((with_reducible refine gate_callee (f:=78) rfl ?_);refine goesL_ (some 23) rfl rfl Try.func78 (by kernel_rfl) rfl #[.slice A0 l0.length c0,.int .i64 0] rfl (by (try simp only [mA_,mC_,mN_]);first | done | rfl | (simp only [lD_,lT_];rfl)) ?_;(with_reducible refine (impl_GetU.calls k _ _ l0 0 t256 t257 t258 _ ?side1 ?side2 A5.out).mono ?_);(case side1=>repeat (first | exact (Kd.C_below HR0.out HB.out) | (with_reducible refine cA_ ?_ _) | (with_reducible refine cN_ ?_ _) | (with_reducible refine cD_ ?_)));(case side2=>exact HC0.out);rintro e w' ⟨rfl,⟨nd,rfl⟩⟩;refine ⟨_,rfl,?_⟩) | ((with_reducible refine gate_callee (f:=78) rfl ?_);refine goesL_ (some 30) rfl rfl Try.func78 (by kernel_rfl) rfl #[.slice A0 l0.length c0,.int .i64 t257] rfl (by (try simp only [mA_,mC_,mN_]);first | done | rfl | (simp only [lD_,lT_];rfl)) ?_;(with_reducible refine (impl_GetU.calls k _ _ l0 t257 t259 t260 t261 _ ?side1 ?side2 A6.out).mono ?_);(case side1=>repeat (first | exact (Kd.C_below HR0.out (by exact bZ_ HB)) | (with_reducible refine cA_ ?_ _) | (with_reducible refine cN_ ?_ _) | (with_reducible refine cD_ ?_)));(case side2=>exact HC0.out);rintro e w' ⟨rfl,⟨nd,rfl⟩⟩;refine ⟨_,rfl,?_⟩))
  (try simp only [Act.put,sI_,sZ_,sS_])
  go_cut [6] (fun v6 wc=>∃ (kq : Nat) (x6_6 : Bool),v6 = .bool x6_6 ∧ Aside0 (impl_GetNode.j0 kq l0 t256 t260 x6_6 t259 = some (r1,r2,r3,r4,r5)) ∧ Aside0 (kq ≤ k) ∧ Aside0 (wc.heap[gb255]? = some (.cells #[.bool false,(.slice none 0 0),(.slice none 0 0),(.slice none 0 0)] 29 (0,0))) ∧ Aside0 (Below w.heap.size w wc))
  case first =>
   have H:=HC7.out
   clear HC7
   by_cases c9 : t258 = true
   ·subst c9
    have H1 : (if t261 = true then ((impl_in.f t256 0 1).bind fun t262=>(if t262 = true then (impl_GetNode.j0 k l0 t256 t260 (decide (t259 ≤ 240)) t259) else (impl_GetNode.j0 k l0 t256 t260 false t259))) else (impl_GetNode.j0 k l0 t256 t260 false t259)) = some (r1,r2,r3,r4,r5):=by rw [if_pos rfl] at H;exact H
    clear H
    have H:=H1
    clear H1
    by_cases c10 : t261 = true
    ·subst c10
     have H1 : ((impl_in.f t256 0 1).bind fun t262=>(if t262 = true then (impl_GetNode.j0 k l0 t256 t260 (decide (t259 ≤ 240)) t259) else (impl_GetNode.j0 k l0 t256 t260 false t259))) = some (r1,r2,r3,r4,r5):=by rw [if_pos rfl] at H;exact H
     clear H
     have H:=H1
     clear H1
     replace H:=oB_ H
     obtain ⟨t262,A110,H⟩:=H
     replace H : (if t262 = true then (impl_GetNode.j0 k l0 t256 t260 (decide (t259 ≤ 240)) t259) else (impl_GetNode.j0 k l0 t256 t260 false t259)) = some (r1,r2,r3,r4,r5):=H
     have A11:=aM_ A110
     clear A110
     by_cases c12 : t262 = true
     ·subst c12
      have H1 : (impl_GetNode.j0 k l0 t256 t260 (decide (t259 ≤ 240)) t259) = some (r1,r2,r3,r4,r5):=by rw [if_pos rfl] at H;exact H
      clear H
      have H:=H1
      clear H1
      have H':=aM_ H
      clear H
      go_wp2_with (first | (go_at_call 79;(with_reducible refine (impl_in.calls t256 0 1 true _ A11.out).mono ?_);rintro e w' ⟨rfl,⟨nd,rfl⟩⟩))
      (first | go_meet | (refine Met.intro ?_;go_step;(repeat apply Exists.intro);refine ⟨?rel,?eq⟩;(case eq=>(try simp only [c33b0]);(try simp only [c4b0]);(try simp only [c4b0]);rfl)))
      case rel=>exact ⟨_,(decide (t259 ≤ 240)),(by first | rfl | (simp;done) | (simp [*];done)),H', ⟨by first | omega | exact Nat.le_refl _⟩,⟨by exact kZ_ BK255⟩,⟨by exact bZ_ HB⟩⟩
     ·replace c12:=Bool.eq_false_iff.mpr c12
      subst c12
      have H1 : (impl_GetNode.j0 k l0 t256 t260 false t259) = some (r1,r2,r3,r4,r5):=by rw [if_neg (show ¬ (false = true) by decide)] at H;exact H
      clear H
      have H:=H1
      clear H1
      have H':=aM_ H
      clear H
      go_wp2_with (first | (go_at_call 79;(with_reducible refine (impl_in.calls t256 0 1 false _ A11.out).mono ?_);rintro e w' ⟨rfl,⟨nd,rfl⟩⟩))
      (first | go_meet | (refine Met.intro ?_;go_step;(repeat apply Exists.intro);refine ⟨?rel,?eq⟩;(case eq=>(try simp only [c33b0]);(try simp only [c4b0]);(try simp only [c4b0]);rfl)))
      case rel=>exact ⟨_,(false),(by first | rfl | (simp;done) | (simp [*];done)),H', ⟨by first | omega | exact Nat.le_refl _⟩,⟨by exact kZ_ BK255⟩,⟨by exact bZ_ HB⟩⟩
    ·replace c10:=Bool.eq_false_iff.mpr c10
     subst c10
     have H1 : (impl_GetNode.j0 k l0 t256 t260 false t259) = some (r1,r2,r3,r4,r5):=by rw [if_neg (show ¬ (false = true) by decide)] at H;exact H
     clear H
     have H:=H1
     clear H1
     have H':=aM_ H
     clear H
     go_wp2
     (first | go_meet | (refine Met.intro ?_;go_step;(repeat apply Exists.intro);refine ⟨?rel,?eq⟩;(case eq=>(try simp only [c33b0]);(try simp only [c4b0]);(try simp only [c4b0]);rfl)))
     case rel=>exact ⟨_,(false),(by first | rfl | (simp;done) | (simp [*];done)),H', ⟨by first | omega | exact Nat.le_refl _⟩,⟨by exact kZ_ BK255⟩,⟨by exact bZ_ HB⟩⟩
   ·replace c9:=Bool.eq_false_iff.mpr c9
    subst c9
    have H1 : (impl_GetNode.j0 k l0 t256 t260 false t259) = some (r1,r2,r3,r4,r5):=by rw [if_neg (show ¬ (false = true) by decide)] at H;exact H
    clear H
    have H:=H1
    clear H1
    have H':=aM_ H
    clear H
    go_wp2
    (first | go_meet | (refine Met.intro ?_;go_step;(repeat apply Exists.intro);refine ⟨?rel,?eq⟩;(case eq=>(try simp only [c33b0]);(try simp only [c4b0]);(try simp only [c4b0]);rfl)))
    case rel=>exact ⟨_,(false),(by first | rfl | (simp;done) | (simp [*];done)),H', ⟨by first | omega | exact Nat.le_refl _⟩,⟨by exact kZ_ BK255⟩,⟨by exact bZ_ HB⟩⟩
  case rest =>
   clear HC7 c2b0 c2b1
   obtain ⟨kq,x6_6,rfl,HA,HJ6,BK255,HB⟩:=hcut
   cases kq with
   | zero=>exact absurd HA.out (by simp [impl_GetNode.j0])
   | succ kj6 =>
    have H:=HA.out
    clear HA
    simp only [impl_GetNode.j0] at H
    obtain ⟨y263,hy263⟩ : ∃ y_ : Bool,y_ = ((t256 == 1)):=⟨_,rfl⟩
    replace H : (impl_GetNode.l0 kj6 l0 t260 x6_6 t259 0 y263 ([] : List ByteArray)) = some (r1,r2,r3,r4,r5):=by first | (rw [hy263];with_reducible exact H) | (have H2_:=(Option.bind_some _ _).symm.trans H;rw [hy263];with_reducible exact H2_) | (have H2_:=(Option.bind_some _ _).symm.trans H;with_reducible exact H2_) | with_reducible exact H | (rw [hy263];exact H) | exact H
    have Ny263:=aM_ hy263
    clear hy263
    have hqy263:=Ny263.out.symm
    have HC13:=aM_ H
    clear H
    go_upto_block 0 with (first | ((with_reducible refine gate_dst (N:=9) rfl ?_);(try (refine gate_guard (by rfl) ?_;dsimp only));refine box_event ?hg (N:=9) ?hd (cs:=#[.bool false,.slice none 0 0,.slice none 0 0,.slice none 0 0]) (t:=29) ?hr ?_;(case hd=>rfl);(case hg=>rfl);(case hr=>first | (go_simp;done) | (go_simp;rfl));intro gb264 hg w14 hbox hb;have n0_:=aM_ (blk_below (g:=gb255) (o:=.cells #[.bool false,.slice none 0 0,.slice none 0 0,.slice none 0 0] 29 (0,0)) (by exact kZ_ BK255) hb);have n1_:=aM_ (bT_ (by exact bZ_ HB) hb);have n2_:=aM_ (hbox);have n3_:=aM_ ((by rw [hg];exact (bS_ (by exact bZ_ HB)) : w.heap.size ≤ gb264));have n4_:=aM_ ((by rw [hg];exact (bS_ (by exact bZ_ HB)) : w.heap.size ≤ gb264));have n5_:=aM_ ((by rw [hg];exact Nat.ne_of_lt (blk_lt (g:=gb255) (o:=.cells #[.bool false,.slice none 0 0,.slice none 0 0,.slice none 0 0] 29 (0,0)) (by exact kZ_ BK255)) : gb255 ≠ gb264));have n6_:=aM_ ((by rw [hg];exact Nat.ne_of_gt (blk_lt (g:=gb255) (o:=.cells #[.bool false,.slice none 0 0,.slice none 0 0,.slice none 0 0] 29 (0,0)) (by exact kZ_ BK255)) : gb264 ≠ gb255));clear BK255 HB;have BK255:=n0_;have HB:=n1_;have BK264:=n2_;have GW264:=n3_;have GE264:=n4_;have NB255_264:=n5_;have NB264_255:=n6_;clear n0_ n1_ n2_ n3_ n4_ n5_ n6_ hb hbox hg;have hnb15:=NB264_255.out;have hnc15:=NB255_264.out;have hcz16_0 : w14.cell? ⟨gb264,0,none⟩ = some (.bool false):=(kC_ BK264.out 0).trans rfl;have hcz16_1 : w14.cell? ⟨gb264,1,none⟩ = some (.slice none 0 0):=(kC_ BK264.out 1).trans rfl;have hcz16_2 : w14.cell? ⟨gb264,2,none⟩ = some (.slice none 0 0):=(kC_ BK264.out 2).trans rfl;have hcz16_3 : w14.cell? ⟨gb264,3,none⟩ = some (.slice none 0 0):=(kC_ BK264.out 3).trans rfl;have hfz16_0:=kF_ BK264.out 0;have hfz16_1:=kF_ BK264.out 1;have hfz16_2:=kF_ BK264.out 2;have hfz16_3:=kF_ BK264.out 3))
    (try simp only [Act.put,sI_,sZ_,sS_])
    go_cut [5,6] (fun v5 v6 wc=>∃ (kq : Nat) (x5_12 : Int) (x6_12 : Bool) (x265001_12 : List ByteArray) (u265001 : Value),v5 = .int .i64 x5_12 ∧ v6 = .bool x6_12 ∧ Aside0 (impl_GetNode.j2 kq l0 x5_12 x6_12 t259 y263 x265001_12 = some (r1,r2,r3,r4,r5)) ∧ Aside0 (kq ≤ kj6) ∧ Aside0 (Kd.R Kd.string 9 wc w.heap.size (fun _=>True) u265001 x265001_12) ∧ Aside0 (wc.heap[gb255]? = some (.cells #[.bool false,(.slice none 0 0),(.slice none 0 0),(.slice none 0 0)] 29 (0,0))) ∧ Aside0 (wc.heap[gb264]? = some (.cells #[.bool y263,u265001,(.slice none 0 0),(.slice none 0 0)] 29 (0,0))) ∧ Aside0 (Below w.heap.size w wc))
    case first =>
     have H:=HC13.out
     clear HC13
     have H':=aM_ H
     clear H
     go_wp2
     (try simp only [Act.put,sI_,sS_,sZ_])
     go_loopg [5,6,10] kj6 (fun kq v5 v6 v10 w'=>∃ (x5_2 : Int) (x6_2 : Bool) (x10_2 : Int) (x265001_2 : List ByteArray) (u265001 : Value),v5 = .int .i64 x5_2 ∧ v6 = .bool x6_2 ∧ v10 = .int .i64 x10_2 ∧ Aside0 (impl_GetNode.l0 kq l0 x5_2 x6_2 t259 x10_2 y263 x265001_2 = some (r1,r2,r3,r4,r5)) ∧ Aside0 (kq ≤ kj6) ∧ Aside0 (Kd.R Kd.string 9 w' w.heap.size (fun _=>True) u265001 x265001_2) ∧ Aside0 (w'.heap[gb255]? = some (.cells #[.bool false,(.slice none 0 0),(.slice none 0 0),(.slice none 0 0)] 29 (0,0))) ∧ Aside0 (w'.heap[gb264]? = some (.cells #[.bool y263,u265001,(.slice none 0 0),(.slice none 0 0)] 29 (0,0))) ∧ Aside0 (Below w.heap.size w w'))
     case atStart=>exact ⟨(t260),(x6_6),(0),(([] : List ByteArray)),(.slice none 0 0),(by first | rfl | (simp;done) | (simp [*];done)),(by first | rfl | (simp;done) | (simp [*];done)),(by first | rfl | (simp;done) | (simp [*];done)),H', ⟨Nat.le_refl _⟩,⟨by first | exact Kd.R_nil _ _ _ _ _ | exact Kd.N_nil _ _ _ _ _ | exact Kd.V_nil _ _ _ _ _ | exact Kd.Q_nil _ _ _ _ _ | exact Kd.S_nil _ _ _ _ _⟩,⟨by exact kW_ BK255⟩,⟨by (with_reducible repeat (first | refine kN_ ?_ _ | refine kD_ ?_ | refine kA_ ?_ _));refine kP_ (cs:=#[.bool y263,.slice none 0 0,.slice none 0 0,.slice none 0 0]) ?_ 3 _ rfl;(with_reducible repeat (first | refine kN_ ?_ _ | refine kD_ ?_ | refine kA_ ?_ _));refine kP_ (cs:=#[.bool y263,.slice none 0 0,.slice none 0 0,.slice none 0 0]) ?_ 2 _ rfl;(with_reducible repeat (first | refine kN_ ?_ _ | refine kD_ ?_ | refine kA_ ?_ _));refine kP_ (cs:=#[.bool y263,.slice none 0 0,.slice none 0 0,.slice none 0 0]) ?_ 1 _ rfl;(with_reducible repeat (first | refine kN_ ?_ _ | refine kD_ ?_ | refine kA_ ?_ _));refine kP_ (cs:=#[.bool false,.slice none 0 0,.slice none 0 0,.slice none 0 0]) ?_ 0 _ rfl;exact kZ_ BK264⟩,⟨by exact bZ_ HB⟩⟩
     case round =>
      clear H'
      clear hcz16_0 hcz16_1 hcz16_2 hcz16_3 hfz16_0 hfz16_1 hfz16_2 hfz16_3
      obtain ⟨x5_2,x6_2,x10_2,x265001_2,u265001,rfl,rfl,rfl,HA,HK2,HO_265001,BK255,BK264,HB⟩:=hrel
      cases gk with
      | zero=>exact absurd HA.out (by simp [impl_GetNode.l0])
      | succ k2 =>
       have H:=HA.out
       clear HA
       simp only [impl_GetNode.l0] at H
       by_cases c17 : x6_2 = true
       ·subst c17
        have H1 : (if x10_2 < t259 then ((impl_GetText.f k2 l0 x5_2).bind fun bt265=>(if x265001_2.length < 8796093022208 then (impl_GetNode.l0 k2 l0 bt265.2.1 bt265.2.2 t259 (wrap64 (x10_2 + 1)) y263 (x265001_2 ++ [bt265.1])) else (none))) else (impl_GetNode.j2 k2 l0 x5_2 true t259 y263 x265001_2)) = some (r1,r2,r3,r4,r5):=by rw [if_pos rfl] at H;exact H
        clear H
        have H:=H1
        clear H1
        by_cases c18 : x10_2 < t259
        ·rw [if_pos c18] at H
         have c18b0 : decide (x10_2 < t259) = true:=decide_eq_true c18
         clear c18
         (first | rw [c18b0] | (simp only [i64_w,i32_w];rw [c18b0]) | skip)
         replace H:=oB_ H
         obtain ⟨⟨t265,t266,t267⟩,A190,H⟩:=H
         replace H : (if x265001_2.length < 8796093022208 then (impl_GetNode.l0 k2 l0 t266 t267 t259 (wrap64 (x10_2 + 1)) y263 (x265001_2 ++ [t265])) else (none)) = some (r1,r2,r3,r4,r5):=H
         have A19:=aM_ A190
         clear A190
         by_cases c20 : x265001_2.length < 8796093022208
         ·rw [if_pos c20] at H
          have LMc20:=aM_ c20
          clear c20
          obtain ⟨y268,hy268⟩ : ∃ y_ : List ByteArray,y_ = (x265001_2 ++ [t265]):=⟨_,rfl⟩
          replace H : (impl_GetNode.l0 k2 l0 t266 t267 t259 (wrap64 (x10_2 + 1)) y263 y268) = some (r1,r2,r3,r4,r5):=by first | (rw [hy268];with_reducible exact H) | (have H2_:=(Option.bind_some _ _).symm.trans H;rw [hy268];with_reducible exact H2_) | (have H2_:=(Option.bind_some _ _).symm.trans H;with_reducible exact H2_) | with_reducible exact H | (rw [hy268];exact H) | exact H
          have Ny268:=aM_ hy268
          clear hy268
          have H':=aM_ H
          clear H
          go_wp2_with (first | ((with_reducible refine gate_callee (f:=80) rfl ?_);refine goesL_ (some 60) rfl rfl Try.func80 (by kernel_rfl) rfl #[.slice A0 l0.length c0,.int .i64 x5_2] rfl (by (try simp only [mA_,mC_,mN_]);first | done | rfl | (simp only [lD_,lT_];rfl)) ?_;(with_reducible refine (impl_GetText.calls k2 _ _ l0 x5_2 t265 t266 t267 _ ?side1 ?side2 A19.out).mono ?_);(case side1=>repeat (first | exact (Kd.C_below HR0.out HB.out) | (with_reducible refine cA_ ?_ _) | (with_reducible refine cN_ ?_ _) | (with_reducible refine cD_ ?_)));(case side2=>exact HC0.out);rintro e w' ⟨rfl,⟨nd,rfl⟩⟩;refine ⟨_,rfl,?_⟩;(try (rw [drewN_self wr];generalize hq_ : World.drewN wr _ = wr;have n0_ : Aside0 (Kd.R Kd.string 9 wr w.heap.size (fun _=>True) u265001 x265001_2):=⟨by rw [← hq_];exact (by exact rZ_ HO_265001)⟩;have n1_ : Aside0 (wr.heap[gb255]? = some (.cells #[.bool false,.slice none 0 0,.slice none 0 0,.slice none 0 0] 29 (0,0))):=⟨by rw [← hq_];exact (by exact kZ_ BK255)⟩;have n2_ : Aside0 (wr.heap[gb264]? = some (.cells #[.bool y263,u265001,.slice none 0 0,.slice none 0 0] 29 (0,0))):=⟨by rw [← hq_];exact (by exact kZ_ BK264)⟩;have n3_ : Aside0 (Below w.heap.size w wr):=⟨by rw [← hq_];exact (by exact bZ_ HB)⟩;clear HO_265001 BK255 BK264 HB hq_;have HO_265001:=n0_;have BK255:=n1_;have BK264:=n2_;have HB:=n3_;clear n0_ n1_ n2_ n3_));have hnb21:=NB264_255.out;have hnc21:=NB255_264.out;have hcz22_0 : wr.cell? ⟨gb264,0,none⟩ = some (.bool y263):=(kC_ BK264.out 0).trans rfl;have hcz22_1 : wr.cell? ⟨gb264,1,none⟩ = some (u265001):=(kC_ BK264.out 1).trans rfl;have hcz22_2 : wr.cell? ⟨gb264,2,none⟩ = some (.slice none 0 0):=(kC_ BK264.out 2).trans rfl;have hcz22_3 : wr.cell? ⟨gb264,3,none⟩ = some (.slice none 0 0):=(kC_ BK264.out 3).trans rfl;have hfz22_0:=kF_ BK264.out 0;have hfz22_1:=kF_ BK264.out 1;have hfz22_2:=kF_ BK264.out 2;have hfz22_3:=kF_ BK264.out 3) | ((with_reducible refine gate_builtin (b:=.append) (xs:=#[.tmp 65,.tmp 67]) rfl ?_);(try (refine gate_guard (by rfl) ?_;dsimp only));at_builtin;refine Kd.R_append Kd.string (w0:=w) w.heap.size rfl (.tmp 65) (.tmp 67) 22 9 (.string ⟨#[]⟩) 16 rfl Try.underlying22 info9 rfl (by decide) (by omega) u265001 x265001_2 t265 [.string t265] (fun _=>True) (fun _=>False) rfl rfl ?aP (fun _ hk=>hk.elim) ?aF ?aO ?aB ?aS ?aL ?_;(case aP=>exact rfl);(case aB=>exact (by exact bZ_ HB));(case aF=>exact (fun _ _=>trivial));(case aO=>exact (by exact rZ_ HO_265001));(case aS=>exact (bS_ (by exact bZ_ HB)));(case aL=>have:=LMc20.out;omega);intro v269 w23 ho hb hg hat;rw [← Ny268.out] at ho;have n0_:=aM_ (blk_grown (g:=gb255) (o:=.cells #[.bool false,.slice none 0 0,.slice none 0 0,.slice none 0 0] 29 (0,0)) (by exact kZ_ BK255) hg (Kd.R_ne HO_265001.out BK255.out (by decide)));have n1_:=aM_ (blk_grown (g:=gb264) (o:=.cells #[.bool y263,u265001,.slice none 0 0,.slice none 0 0] 29 (0,0)) (by exact kZ_ BK264) hg (Kd.R_ne HO_265001.out BK264.out (by decide)));have n2_:=aM_ (hb);have n3_:=aM_ (ho);clear BK255 BK264 HB HO_265001;have BK255:=n0_;have BK264:=n1_;have HB:=n2_;have HO270:=n3_;clear n0_ n1_ n2_ n3_ ho hb hg hat;obtain ⟨Ao24,co24,eo24⟩:=Kd.R_slice HO270.out;subst eo24;have hcz25_0 : w23.cell? ⟨gb264,0,none⟩ = some (.bool y263):=(kC_ BK264.out 0).trans rfl;have hcz25_1 : w23.cell? ⟨gb264,1,none⟩ = some (u265001):=(kC_ BK264.out 1).trans rfl;have hcz25_2 : w23.cell? ⟨gb264,2,none⟩ = some (.slice none 0 0):=(kC_ BK264.out 2).trans rfl;have hcz25_3 : w23.cell? ⟨gb264,3,none⟩ = some (.slice none 0 0):=(kC_ BK264.out 3).trans rfl;have hfz25_0:=kF_ BK264.out 0;have hfz25_1:=kF_ BK264.out 1;have hfz25_2:=kF_ BK264.out 2;have hfz25_3:=kF_ BK264.out 3))
          go_roundg k2
          case measure=>have:=HJ6.out;have:=HK2.out;omega
          case rel=>exact ⟨(t266),(t267),(wrap64 (x10_2 + 1)),(y268),(.slice Ao24 y268.length co24),(by first | rfl | (simp;done) | (simp [*];done)),(by first | rfl | (simp;done) | (simp [*];done)),(by first | rfl | (simp;done) | (simp [*];done)),H', ⟨by have:=HJ6.out;have:=HK2.out;omega⟩,⟨by (with_reducible repeat (first | apply rA_ | apply rN_ | apply rD_));exact Kd.R_mono (Kd.R_far (p:=⟨gb264,1,none⟩) (Kd.R_types HO270.out BK264.out (by decide)) (fun _ hk=>hk.2) (.slice Ao24 y268.length co24)) (fun _ hk=>trivial)⟩,⟨by exact kW_ BK255⟩,⟨by (with_reducible repeat (first | refine kN_ ?_ _ | refine kD_ ?_ | refine kA_ ?_ _));refine kP_ (cs:=#[.bool y263,u265001,.slice none 0 0,.slice none 0 0]) ?_ 1 _ rfl;exact kZ_ BK264⟩,⟨by exact bZ_ HB⟩⟩
         ·rw [if_neg c20] at H
          exact absurd H (by simp)
        ·rw [if_neg c18] at H
         have c18b0 : decide (x10_2 < t259) = false:=decide_eq_false c18
         clear c18
         (first | rw [c18b0] | (simp only [i64_w,i32_w];rw [c18b0]) | skip)
         have H':=aM_ H
         clear H
         go_wp2
         (first | go_meet | (refine Met.intro ?_;go_step;(repeat apply Exists.intro);refine ⟨?rel,?eq⟩;(case eq=>(try simp only [c4b0]);(try simp only [c18b0]);(try simp only [c18b0]);rfl)))
         case rel=>exact ⟨_,(x5_2),(true),(x265001_2),(u265001),(by first | rfl | (simp;done) | (simp [*];done)),(by first | rfl | (simp;done) | (simp [*];done)),H', ⟨by have:=HJ6.out;have:=HK2.out;first | omega | exact Nat.le_refl _⟩,⟨by exact rZ_ HO_265001⟩,⟨by exact kZ_ BK255⟩,⟨by exact kZ_ BK264⟩,⟨by exact bZ_ HB⟩⟩
       ·replace c17:=Bool.eq_false_iff.mpr c17
        subst c17
        have H1 : (impl_GetNode.j2 k2 l0 x5_2 false t259 y263 x265001_2) = some (r1,r2,r3,r4,r5):=by rw [if_neg (show ¬ (false = true) by decide)] at H;exact H
        clear H
        have H:=H1
        clear H1
        have H':=aM_ H
        clear H
        go_wp2
        (first | go_meet | (refine Met.intro ?_;go_step;(repeat apply Exists.intro);refine ⟨?rel,?eq⟩;(case eq=>(try simp only [c4b0]);(try simp only [c18b0]);(try simp only [c18b0]);rfl)))
        case rel=>exact ⟨_,(x5_2),(false),(x265001_2),(u265001),(by first | rfl | (simp;done) | (simp [*];done)),(by first | rfl | (simp;done) | (simp [*];done)),H', ⟨by have:=HJ6.out;have:=HK2.out;first | omega | exact Nat.le_refl _⟩,⟨by exact rZ_ HO_265001⟩,⟨by exact kZ_ BK255⟩,⟨by exact kZ_ BK264⟩,⟨by exact bZ_ HB⟩⟩
    case rest =>
     clear HC13 hcz16_0 hcz16_1 hcz16_2 hcz16_3 hfz16_0 hfz16_1 hfz16_2 hfz16_3
     obtain ⟨kq,x5_12,x6_12,x265001_12,u265001,rfl,rfl,HA,HJ12,HO_265001,BK255,BK264,HB⟩:=hcut
     cases kq with
     | zero=>exact absurd HA.out (by simp [impl_GetNode.j2])
     | succ kj12 =>
      have H:=HA.out
      clear HA
      simp only [impl_GetNode.j2] at H
      have HC26:=aM_ H
      clear H
      go_upto_block 2 with (fail)
      go_cut [5,6] (fun v5 v6 wc=>∃ (kq : Nat) (x5_25 : Int) (x6_25 : Bool) (x265002_25 : List ByteArray) (u265002 : Value),v5 = .int .i64 x5_25 ∧ v6 = .bool x6_25 ∧ Aside0 (impl_GetNode.j4 kq l0 x5_25 x6_25 t259 y263 x265001_12 x265002_25 = some (r1,r2,r3,r4,r5)) ∧ Aside0 (kq ≤ kj12) ∧ Aside0 (Kd.R Kd.string 9 wc w.heap.size (fun k_=>some k_ ≠ (u265002 : Value).ownBlock) u265001 x265001_12) ∧ Aside0 (Kd.R Kd.string 9 wc w.heap.size (fun k_=>some k_ ≠ (u265001 : Value).ownBlock) u265002 x265002_25) ∧ Aside0 (wc.heap[gb255]? = some (.cells #[.bool false,(.slice none 0 0),(.slice none 0 0),(.slice none 0 0)] 29 (0,0))) ∧ Aside0 (wc.heap[gb264]? = some (.cells #[.bool y263,u265001,u265002,(.slice none 0 0)] 29 (0,0))) ∧ Aside0 (Below w.heap.size w wc))
      case first =>
       have H:=HC26.out
       clear HC26
       have H':=aM_ H
       clear H
       go_wp2
       (try simp only [Act.put,sI_,sS_,sZ_])
       go_loopg [5,6,12] kj12 (fun kq v5 v6 v12 w'=>∃ (x5_3 : Int) (x6_3 : Bool) (x12_3 : Int) (x265002_3 : List ByteArray) (u265002 : Value),v5 = .int .i64 x5_3 ∧ v6 = .bool x6_3 ∧ v12 = .int .i64 x12_3 ∧ Aside0 (impl_GetNode.l1 kq l0 x5_3 x6_3 t259 x12_3 y263 x265001_12 x265002_3 = some (r1,r2,r3,r4,r5)) ∧ Aside0 (kq ≤ kj12) ∧ Aside0 (Kd.R Kd.string 9 w' w.heap.size (fun k_=>some k_ ≠ (u265002 : Value).ownBlock) u265001 x265001_12) ∧ Aside0 (Kd.R Kd.string 9 w' w.heap.size (fun k_=>some k_ ≠ (u265001 : Value).ownBlock) u265002 x265002_3) ∧ Aside0 (w'.heap[gb255]? = some (.cells #[.bool false,(.slice none 0 0),(.slice none 0 0),(.slice none 0 0)] 29 (0,0))) ∧ Aside0 (w'.heap[gb264]? = some (.cells #[.bool y263,u265001,u265002,(.slice none 0 0)] 29 (0,0))) ∧ Aside0 (Below w.heap.size w w'))
       case atStart=>exact ⟨(x5_12),(x6_12),(0),(([] : List ByteArray)),(.slice none 0 0),(by first | rfl | (simp;done) | (simp [*];done)),(by first | rfl | (simp;done) | (simp [*];done)),(by first | rfl | (simp;done) | (simp [*];done)),H', ⟨Nat.le_refl _⟩,⟨by (with_reducible repeat (first | apply rA_ | apply rN_ | apply rD_));exact Kd.R_mono HO_265001.out (fun _ hk=>(by simp [Value.ownBlock]))⟩,⟨by first | exact Kd.R_nil _ _ _ _ _ | exact Kd.N_nil _ _ _ _ _ | exact Kd.V_nil _ _ _ _ _ | exact Kd.Q_nil _ _ _ _ _ | exact Kd.S_nil _ _ _ _ _⟩,⟨by exact kZ_ BK255⟩,⟨by exact kZ_ BK264⟩,⟨by exact bZ_ HB⟩⟩
       case round =>
        clear H'
        obtain ⟨x5_3,x6_3,x12_3,x265002_3,u265002,rfl,rfl,rfl,HA,HK3,HO_265001,HO_265002,BK255,BK264,HB⟩:=hrel
        cases gk with
        | zero=>exact absurd HA.out (by simp [impl_GetNode.l1])
        | succ k3 =>
         have H:=HA.out
         clear HA
         simp only [impl_GetNode.l1] at H
         by_cases c27 : x6_3 = true
         ·subst c27
          have H1 : (if y263 = true then (if x12_3 < t259 then ((impl_GetText.f k3 l0 x5_3).bind fun bt271=>(if x265002_3.length < 8796093022208 then (impl_GetNode.l1 k3 l0 bt271.2.1 bt271.2.2 t259 (wrap64 (x12_3 + 1)) y263 x265001_12 (x265002_3 ++ [bt271.1])) else (none))) else (impl_GetNode.j4 k3 l0 x5_3 true t259 y263 x265001_12 x265002_3)) else (impl_GetNode.j4 k3 l0 x5_3 true t259 y263 x265001_12 x265002_3)) = some (r1,r2,r3,r4,r5):=by rw [if_pos rfl] at H;exact H
          clear H
          have H:=H1
          clear H1
          by_cases c28 : y263 = true
          ·subst c28
           have H1 : (if x12_3 < t259 then ((impl_GetText.f k3 l0 x5_3).bind fun bt271=>(if x265002_3.length < 8796093022208 then (impl_GetNode.l1 k3 l0 bt271.2.1 bt271.2.2 t259 (wrap64 (x12_3 + 1)) true x265001_12 (x265002_3 ++ [bt271.1])) else (none))) else (impl_GetNode.j4 k3 l0 x5_3 true t259 true x265001_12 x265002_3)) = some (r1,r2,r3,r4,r5):=by rw [if_pos rfl] at H;exact H
           clear H
           have H:=H1
           clear H1
           by_cases c29 : x12_3 < t259
           ·rw [if_pos c29] at H
            have c29b0 : decide (x12_3 < t259) = true:=decide_eq_true c29
            clear c29
            (first | rw [c29b0] | (simp only [i64_w,i32_w];rw [c29b0]) | skip)
            replace H:=oB_ H
            obtain ⟨⟨t271,t272,t273⟩,A300,H⟩:=H
            replace H : (if x265002_3.length < 8796093022208 then (impl_GetNode.l1 k3 l0 t272 t273 t259 (wrap64 (x12_3 + 1)) true x265001_12 (x265002_3 ++ [t271])) else (none)) = some (r1,r2,r3,r4,r5):=H
            have A30:=aM_ A300
            clear A300
            by_cases c31 : x265002_3.length < 8796093022208
            ·rw [if_pos c31] at H
             have LMc31:=aM_ c31
             clear c31
             obtain ⟨y274,hy274⟩ : ∃ y_ : List ByteArray,y_ = (x265002_3 ++ [t271]):=⟨_,rfl⟩
             replace H : (impl_GetNode.l1 k3 l0 t272 t273 t259 (wrap64 (x12_3 + 1)) true x265001_12 y274) = some (r1,r2,r3,r4,r5):=by first | (rw [hy274];with_reducible exact H) | (have H2_:=(Option.bind_some _ _).symm.trans H;rw [hy274];with_reducible exact H2_) | (have H2_:=(Option.bind_some _ _).symm.trans H;with_reducible exact H2_) | with_reducible exact H | (rw [hy274];exact H) | exact H
             have Ny274:=aM_ hy274
             clear hy274
             have H':=aM_ H
             clear H
             have hnb32:=NB264_255.out
             have hnc32:=NB255_264.out
             have hcz33_0 : wr.cell? ⟨gb264,0,none⟩ = some (.bool true):=(kC_ BK264.out 0).trans rfl
             have hcz33_1 : wr.cell? ⟨gb264,1,none⟩ = some (u265001):=(kC_ BK264.out 1).trans rfl
             have hcz33_2 : wr.cell? ⟨gb264,2,none⟩ = some (u265002):=(kC_ BK264.out 2).trans rfl
             have hcz33_3 : wr.cell? ⟨gb264,3,none⟩ = some (.slice none 0 0):=(kC_ BK264.out 3).trans rfl
             have hfz33_0:=kF_ BK264.out 0
             have hfz33_1:=kF_ BK264.out 1
             have hfz33_2:=kF_ BK264.out 2
             have hfz33_3:=kF_ BK264.out 3
             go_wp2_with (first | ((with_reducible refine gate_callee (f:=80) rfl ?_);refine goesL_ (some 85) rfl rfl Try.func80 (by kernel_rfl) rfl #[.slice A0 l0.length c0,.int .i64 x5_3] rfl (by (try simp only [mA_,mC_,mN_]);first | done | rfl | (simp only [lD_,lT_];rfl)) ?_;(with_reducible refine (impl_GetText.calls k3 _ _ l0 x5_3 t271 t272 t273 _ ?side1 ?side2 A30.out).mono ?_);(case side1=>repeat (first | exact (Kd.C_below HR0.out HB.out) | (with_reducible refine cA_ ?_ _) | (with_reducible refine cN_ ?_ _) | (with_reducible refine cD_ ?_)));(case side2=>exact HC0.out);rintro e w' ⟨rfl,⟨nd,rfl⟩⟩;refine ⟨_,rfl,?_⟩;(try (rw [drewN_self wr];generalize hq_ : World.drewN wr _ = wr;have n0_ : Aside0 (Kd.R Kd.string 9 wr w.heap.size (fun k_=>some k_ ≠ (u265002 : Value).ownBlock) u265001 x265001_12):=⟨by rw [← hq_];exact (by exact rZ_ HO_265001)⟩;have n1_ : Aside0 (Kd.R Kd.string 9 wr w.heap.size (fun k_=>some k_ ≠ (u265001 : Value).ownBlock) u265002 x265002_3):=⟨by rw [← hq_];exact (by exact rZ_ HO_265002)⟩;have n2_ : Aside0 (wr.heap[gb255]? = some (.cells #[.bool false,.slice none 0 0,.slice none 0 0,.slice none 0 0] 29 (0,0))):=⟨by rw [← hq_];exact (by exact kZ_ BK255)⟩;have n3_ : Aside0 (wr.heap[gb264]? = some (.cells #[.bool true,u265001,u265002,.slice none 0 0] 29 (0,0))):=⟨by rw [← hq_];exact (by exact kZ_ BK264)⟩;have n4_ : Aside0 (Below w.heap.size w wr):=⟨by rw [← hq_];exact (by exact bZ_ HB)⟩;clear HO_265001 HO_265002 BK255 BK264 HB hq_;have HO_265001:=n0_;have HO_265002:=n1_;have BK255:=n2_;have BK264:=n3_;have HB:=n4_;clear n0_ n1_ n2_ n3_ n4_));have hcz34_0 : wr.cell? ⟨gb264,0,none⟩ = some (.bool true):=(kC_ BK264.out 0).trans rfl;have hcz34_1 : wr.cell? ⟨gb264,1,none⟩ = some (u265001):=(kC_ BK264.out 1).trans rfl;have hcz34_2 : wr.cell? ⟨gb264,2,none⟩ = some (u265002):=(kC_ BK264.out 2).trans rfl;have hcz34_3 : wr.cell? ⟨gb264,3,none⟩ = some (.slice none 0 0):=(kC_ BK264.out 3).trans rfl;have hfz34_0:=kF_ BK264.out 0;have hfz34_1:=kF_ BK264.out 1;have hfz34_2:=kF_ BK264.out 2;have hfz34_3:=kF_ BK264.out 3) | ((with_reducible refine gate_builtin (b:=.append) (xs:=#[.tmp 90,.tmp 92]) rfl ?_);(try (refine gate_guard (by rfl) ?_;dsimp only));at_builtin;refine Kd.R_append Kd.string (w0:=w) w.heap.size rfl (.tmp 90) (.tmp 92) 22 9 (.string ⟨#[]⟩) 16 rfl Try.underlying22 info9 rfl (by decide) (by omega) u265002 x265002_3 t271 [.string t271] (fun k_=>some k_ ≠ (u265001 : Value).ownBlock) (fun _=>False) rfl rfl ?aP (fun _ hk=>hk.elim) ?aF ?aO ?aB ?aS ?aL ?_;(case aP=>exact rfl);(case aB=>exact (by exact bZ_ HB));(case aF=>exact (fun k_ hk=>Kd.fresh' (Kd.R_lt (by exact rZ_ HO_265001)) k_ hk));(case aO=>exact (by exact rZ_ HO_265002));(case aS=>exact (bS_ (by exact bZ_ HB)));(case aL=>have:=LMc31.out;omega);intro v275 w35 ho hb hg hat;rw [← Ny274.out] at ho;have n0_:=aM_ (Kd.R_after (ok:=(fun _=>True)) (by (with_reducible repeat (first | apply rA_ | apply rN_ | apply rD_));exact Kd.R_mono HO_265001.out (fun _ hk=>⟨trivial,hk⟩)) hg hat);have n1_:=aM_ (blk_grown (g:=gb255) (o:=.cells #[.bool false,.slice none 0 0,.slice none 0 0,.slice none 0 0] 29 (0,0)) (by exact kZ_ BK255) hg (Kd.R_ne HO_265002.out BK255.out (by decide)));have n2_:=aM_ (blk_grown (g:=gb264) (o:=.cells #[.bool true,u265001,u265002,.slice none 0 0] 29 (0,0)) (by exact kZ_ BK264) hg (Kd.R_ne HO_265002.out BK264.out (by decide)));have n3_:=aM_ (hb);have n4_:=aM_ (ho);clear HO_265001 BK255 BK264 HB HO_265002;have HO_265001:=n0_;have BK255:=n1_;have BK264:=n2_;have HB:=n3_;have HO276:=n4_;clear n0_ n1_ n2_ n3_ n4_ ho hb hg hat;obtain ⟨Ao36,co36,eo36⟩:=Kd.R_slice HO276.out;subst eo36;have hcz37_0 : w35.cell? ⟨gb264,0,none⟩ = some (.bool true):=(kC_ BK264.out 0).trans rfl;have hcz37_1 : w35.cell? ⟨gb264,1,none⟩ = some (u265001):=(kC_ BK264.out 1).trans rfl;have hcz37_2 : w35.cell? ⟨gb264,2,none⟩ = some (u265002):=(kC_ BK264.out 2).trans rfl;have hcz37_3 : w35.cell? ⟨gb264,3,none⟩ = some (.slice none 0 0):=(kC_ BK264.out 3).trans rfl;have hfz37_0:=kF_ BK264.out 0;have hfz37_1:=kF_ BK264.out 1;have hfz37_2:=kF_ BK264.out 2;have hfz37_3:=kF_ BK264.out 3))
             go_roundg k3
             case measure=>have:=HJ6.out;have:=HJ12.out;have:=HK3.out;omega
             case rel=>exact ⟨(t272),(t273),(wrap64 (x12_3 + 1)),(y274),(.slice Ao36 y274.length co36),(by first | rfl | (simp;done) | (simp [*];done)),(by first | rfl | (simp;done) | (simp [*];done)),(by first | rfl | (simp;done) | (simp [*];done)),H', ⟨by have:=HJ6.out;have:=HJ12.out;have:=HK3.out;omega⟩,⟨by (with_reducible repeat (first | apply rA_ | apply rN_ | apply rD_));exact Kd.R_mono (Kd.R_far (p:=⟨gb264,2,none⟩) (Kd.R_types HO_265001.out BK264.out (by decide)) (fun _ hk=>hk.2) (.slice Ao36 y274.length co36)) (fun _ hk=>hk.1.2)⟩,⟨by (with_reducible repeat (first | apply rA_ | apply rN_ | apply rD_));exact Kd.R_mono (Kd.R_far (p:=⟨gb264,2,none⟩) (Kd.R_types HO276.out BK264.out (by decide)) (fun _ hk=>hk.2) (.slice Ao36 y274.length co36)) (fun _ hk=>hk.1)⟩,⟨by exact kW_ BK255⟩,⟨by (with_reducible repeat (first | refine kN_ ?_ _ | refine kD_ ?_ | refine kA_ ?_ _));refine kP_ (cs:=#[.bool true,u265001,u265002,.slice none 0 0]) ?_ 2 _ rfl;exact kZ_ BK264⟩,⟨by exact bZ_ HB⟩⟩
            ·rw [if_neg c31] at H
             exact absurd H (by simp)
           ·rw [if_neg c29] at H
            have c29b0 : decide (x12_3 < t259) = false:=decide_eq_false c29
            clear c29
            (first | rw [c29b0] | (simp only [i64_w,i32_w];rw [c29b0]) | skip)
            have H':=aM_ H
            clear H
            have hnb38:=NB264_255.out
            have hnc38:=NB255_264.out
            have hcz39_0 : wr.cell? ⟨gb264,0,none⟩ = some (.bool true):=(kC_ BK264.out 0).trans rfl
            have hcz39_1 : wr.cell? ⟨gb264,1,none⟩ = some (u265001):=(kC_ BK264.out 1).trans rfl
            have hcz39_2 : wr.cell? ⟨gb264,2,none⟩ = some (u265002):=(kC_ BK264.out 2).trans rfl
            have hcz39_3 : wr.cell? ⟨gb264,3,none⟩ = some (.slice none 0 0):=(kC_ BK264.out 3).trans rfl
            have hfz39_0:=kF_ BK264.out 0
            have hfz39_1:=kF_ BK264.out 1
            have hfz39_2:=kF_ BK264.out 2
            have hfz39_3:=kF_ BK264.out 3
            go_wp2
            (first | go_meet | (refine Met.intro ?_;go_step;(repeat apply Exists.intro);refine ⟨?rel,?eq⟩;(case eq=>(try simp only [c18b0]);(try simp only [c29b0]);(try simp only [c29b0]);rfl)))
            case rel=>exact ⟨_,(x5_3),(true),(x265002_3),(u265002),(by first | rfl | (simp;done) | (simp [*];done)),(by first | rfl | (simp;done) | (simp [*];done)),H', ⟨by have:=HJ6.out;have:=HJ12.out;have:=HK3.out;first | omega | exact Nat.le_refl _⟩,⟨by exact rZ_ HO_265001⟩,⟨by exact rZ_ HO_265002⟩,⟨by exact kZ_ BK255⟩,⟨by exact kZ_ BK264⟩,⟨by exact bZ_ HB⟩⟩
          ·replace c28:=Bool.eq_false_iff.mpr c28
           subst c28
           have H1 : (impl_GetNode.j4 k3 l0 x5_3 true t259 false x265001_12 x265002_3) = some (r1,r2,r3,r4,r5):=by rw [if_neg (show ¬ (false = true) by decide)] at H;exact H
           clear H
           have H:=H1
           clear H1
           have H':=aM_ H
           clear H
           have hnb40:=NB264_255.out
           have hnc40:=NB255_264.out
           have hcz41_0 : wr.cell? ⟨gb264,0,none⟩ = some (.bool false):=(kC_ BK264.out 0).trans rfl
           have hcz41_1 : wr.cell? ⟨gb264,1,none⟩ = some (u265001):=(kC_ BK264.out 1).trans rfl
           have hcz41_2 : wr.cell? ⟨gb264,2,none⟩ = some (u265002):=(kC_ BK264.out 2).trans rfl
           have hcz41_3 : wr.cell? ⟨gb264,3,none⟩ = some (.slice none 0 0):=(kC_ BK264.out 3).trans rfl
           have hfz41_0:=kF_ BK264.out 0
           have hfz41_1:=kF_ BK264.out 1
           have hfz41_2:=kF_ BK264.out 2
           have hfz41_3:=kF_ BK264.out 3
           go_wp2
           (first | go_meet | (refine Met.intro ?_;go_step;(repeat apply Exists.intro);refine ⟨?rel,?eq⟩;(case eq=>(try simp only [c18b0]);(try simp only [c29b0]);(try simp only [c29b0]);rfl)))
           case rel=>exact ⟨_,(x5_3),(true),(x265002_3),(u265002),(by first | rfl | (simp;done) | (simp [*];done)),(by first | rfl | (simp;done) | (simp [*];done)),H', ⟨by have:=HJ6.out;have:=HJ12.out;have:=HK3.out;first | omega | exact Nat.le_refl _⟩,⟨by exact rZ_ HO_265001⟩,⟨by exact rZ_ HO_265002⟩,⟨by exact kZ_ BK255⟩,⟨by exact kZ_ BK264⟩,⟨by exact bZ_ HB⟩⟩
         ·replace c27:=Bool.eq_false_iff.mpr c27
          subst c27
          have H1 : (impl_GetNode.j4 k3 l0 x5_3 false t259 y263 x265001_12 x265002_3) = some (r1,r2,r3,r4,r5):=by rw [if_neg (show ¬ (false = true) by decide)] at H;exact H
          clear H
          have H:=H1
          clear H1
          have H':=aM_ H
          clear H
          go_wp2
          (first | go_meet | (refine Met.intro ?_;go_step;(repeat apply Exists.intro);refine ⟨?rel,?eq⟩;(case eq=>(try simp only [c18b0]);(try simp only [c29b0]);(try simp only [c29b0]);rfl)))
          case rel=>exact ⟨_,(x5_3),(false),(x265002_3),(u265002),(by first | rfl | (simp;done) | (simp [*];done)),(by first | rfl | (simp;done) | (simp [*];done)),H', ⟨by have:=HJ6.out;have:=HJ12.out;have:=HK3.out;first | omega | exact Nat.le_refl _⟩,⟨by exact rZ_ HO_265001⟩,⟨by exact rZ_ HO_265002⟩,⟨by exact kZ_ BK255⟩,⟨by exact kZ_ BK264⟩,⟨by exact bZ_ HB⟩⟩
      case rest =>
       clear HC26
       obtain ⟨kq,x5_25,x6_25,x265002_25,u265002,rfl,rfl,HA,HJ25,HO_265001,HO_265002,BK255,BK264,HB⟩:=hcut
       cases kq with
       | zero=>exact absurd HA.out (by simp [impl_GetNode.j4])
       | succ kj25 =>
        have H:=HA.out
        clear HA
        simp only [impl_GetNode.j4] at H
        have H':=aM_ H
        clear H
        go_wp2
        (try simp only [Act.put,sI_,sS_,sZ_])
        go_loopg [5,6,14] kj25 (fun kq v5 v6 v14 w'=>∃ (x5_4 : Int) (x6_4 : Bool) (x14_4 : Int) (x265003_4 : List Int) (u265003 : Value),v5 = .int .i64 x5_4 ∧ v6 = .bool x6_4 ∧ v14 = .int .i64 x14_4 ∧ Aside0 (impl_GetNode.l2 kq l0 x5_4 x6_4 t259 x14_4 y263 x265001_12 x265002_25 x265003_4 = some (r1,r2,r3,r4,r5)) ∧ Aside0 (kq ≤ kj25) ∧ Aside0 (Kd.R Kd.string 9 w' w.heap.size (fun k_=>some k_ ≠ (u265002 : Value).ownBlock) u265001 x265001_12) ∧ Aside0 (Kd.R Kd.string 9 w' w.heap.size (fun k_=>some k_ ≠ (u265001 : Value).ownBlock) u265002 x265002_25) ∧ Aside0 (Kd.R (Kd.int .i64) 3 w' w.heap.size (fun _=>True) u265003 x265003_4) ∧ Aside0 (w'.heap[gb255]? = some (.cells #[.bool false,(.slice none 0 0),(.slice none 0 0),(.slice none 0 0)] 29 (0,0))) ∧ Aside0 (w'.heap[gb264]? = some (.cells #[.bool y263,u265001,u265002,u265003] 29 (0,0))) ∧ Aside0 (Below w.heap.size w w'))
        case atStart=>exact ⟨(x5_25),(x6_25),(0),(([] : List Int)),(.slice none 0 0),(by first | rfl | (simp;done) | (simp [*];done)),(by first | rfl | (simp;done) | (simp [*];done)),(by first | rfl | (simp;done) | (simp [*];done)),H', ⟨Nat.le_refl _⟩,⟨by exact rZ_ HO_265001⟩,⟨by exact rZ_ HO_265002⟩,⟨by first | exact Kd.R_nil _ _ _ _ _ | exact Kd.N_nil _ _ _ _ _ | exact Kd.V_nil _ _ _ _ _ | exact Kd.Q_nil _ _ _ _ _ | exact Kd.S_nil _ _ _ _ _⟩,⟨by exact kZ_ BK255⟩,⟨by exact kZ_ BK264⟩,⟨by exact bZ_ HB⟩⟩
        case round =>
         clear H'
         obtain ⟨x5_4,x6_4,x14_4,x265003_4,u265003,rfl,rfl,rfl,HA,HK4,HO_265001,HO_265002,HO_265003,BK255,BK264,HB⟩:=hrel
         cases gk with
         | zero=>exact absurd HA.out (by simp [impl_GetNode.l2])
         | succ k4 =>
          have H:=HA.out
          clear HA
          simp only [impl_GetNode.l2] at H
          by_cases c42 : x6_4 = true
          ·subst c42
           have H1 : (if y263 = true then ((impl_PutNode.f k4 y263 x265001_12 x265002_25 x265003_4).bind fun t277=>(if (t277.length : Int) = 0 then (some (false,([] : List ByteArray),([] : List ByteArray),([] : List Int),false)) else (if (strOfNums t277).toList = (strOfNums l0).toList then (some (y263,x265001_12,x265002_25,x265003_4,true)) else (some (false,([] : List ByteArray),([] : List ByteArray),([] : List Int),false))))) else (if x14_4 ≤ t259 then ((impl_GetU.f k4 l0 x5_4).bind fun bt280=>(if x265003_4.length < 17592186044416 then (impl_GetNode.l2 k4 l0 bt280.2.1 bt280.2.2 t259 (wrap64 (x14_4 + 1)) y263 x265001_12 x265002_25 (x265003_4 ++ [bt280.1])) else (none))) else ((impl_PutNode.f k4 y263 x265001_12 x265002_25 x265003_4).bind fun t286=>(if (t286.length : Int) = 0 then (some (false,([] : List ByteArray),([] : List ByteArray),([] : List Int),false)) else (if (strOfNums t286).toList = (strOfNums l0).toList then (some (y263,x265001_12,x265002_25,x265003_4,true)) else (some (false,([] : List ByteArray),([] : List ByteArray),([] : List Int),false))))))) = some (r1,r2,r3,r4,r5):=by rw [if_pos rfl] at H;exact H
           clear H
           have H:=H1
           clear H1
           by_cases c43 : y263 = true
           ·subst c43
            have H1 : ((impl_PutNode.f k4 true x265001_12 x265002_25 x265003_4).bind fun t277=>(if (t277.length : Int) = 0 then (some (false,([] : List ByteArray),([] : List ByteArray),([] : List Int),false)) else (if (strOfNums t277).toList = (strOfNums l0).toList then (some (true,x265001_12,x265002_25,x265003_4,true)) else (some (false,([] : List ByteArray),([] : List ByteArray),([] : List Int),false))))) = some (r1,r2,r3,r4,r5):=by rw [if_pos rfl] at H;exact H
            clear H
            have H:=H1
            clear H1
            replace H:=oB_ H
            obtain ⟨t277,A440,H⟩:=H
            replace H : (if (t277.length : Int) = 0 then (some (false,([] : List ByteArray),([] : List ByteArray),([] : List Int),false)) else (if (strOfNums t277).toList = (strOfNums l0).toList then (some (true,x265001_12,x265002_25,x265003_4,true)) else (some (false,([] : List ByteArray),([] : List ByteArray),([] : List Int),false)))) = some (r1,r2,r3,r4,r5):=H
            have A44:=aM_ A440
            clear A440
            by_cases c45 : (t277.length : Int) = 0
            ·rw [if_pos c45] at H
             have c45b0 : ((t277.length : Int) == 0) = true:=beq_iff_eq.mpr c45
             have c45b1 : ((t277.length : Int) != 0) = false:=bne_eq_false_iff_eq.mpr c45
             clear c45
             simp only [Option.some.injEq,Prod.mk.injEq] at H
             obtain ⟨rfl,rfl,rfl,rfl,rfl⟩:=H
             have hnb46:=NB264_255.out
             have hnc46:=NB255_264.out
             have hcz47_0 : wr.cell? ⟨gb264,0,none⟩ = some (.bool true):=(kC_ BK264.out 0).trans rfl
             have hcz47_1 : wr.cell? ⟨gb264,1,none⟩ = some (u265001):=(kC_ BK264.out 1).trans rfl
             have hcz47_2 : wr.cell? ⟨gb264,2,none⟩ = some (u265002):=(kC_ BK264.out 2).trans rfl
             have hcz47_3 : wr.cell? ⟨gb264,3,none⟩ = some (u265003):=(kC_ BK264.out 3).trans rfl
             have hfz47_0:=kF_ BK264.out 0
             have hfz47_1:=kF_ BK264.out 1
             have hfz47_2:=kF_ BK264.out 2
             have hfz47_3:=kF_ BK264.out 3
             obtain ⟨Ao48,co48,eo48⟩:=Kd.R_slice HO_265001.out
             subst eo48
             obtain ⟨Ao49,co49,eo49⟩:=Kd.R_slice HO_265002.out
             subst eo49
             obtain ⟨Ao50,co50,eo50⟩:=Kd.R_slice HO_265003.out
             subst eo50
             go_wp2_with (first | ((with_reducible refine gate_callee (f:=15) rfl ?_);refine goesL_ (some 122) rfl rfl Try.func15 (by kernel_rfl) rfl #[.agg #[.bool true,.slice Ao48 x265001_12.length co48,.slice Ao49 x265002_25.length co49,.slice Ao50 x265003_4.length co50]] rfl (by (try simp only [mA_,mC_,mN_]);first | done | rfl | (simp only [lD_,lT_];rfl)) ?_;(with_reducible refine (impl_PutNode.calls k4 true _ _ x265001_12 _ _ x265002_25 _ _ x265003_4 t277 _ ?side1 ?side2 ?side3 ?side4 ?side5 ?side6 A44.out).mono ?_);(case side1=>repeat (first | exact (Kd.R_reads' HO_265001.out).2.2 | (with_reducible refine cA_ ?_ _) | (with_reducible refine cN_ ?_ _) | (with_reducible refine cD_ ?_)));(case side2=>exact (Kd.R_reads' HO_265001.out).2.1);(case side3=>repeat (first | exact (Kd.R_reads' HO_265002.out).2.2 | (with_reducible refine cA_ ?_ _) | (with_reducible refine cN_ ?_ _) | (with_reducible refine cD_ ?_)));(case side4=>exact (Kd.R_reads' HO_265002.out).2.1);(case side5=>repeat (first | exact (Kd.R_reads' HO_265003.out).2.2 | (with_reducible refine cA_ ?_ _) | (with_reducible refine cN_ ?_ _) | (with_reducible refine cD_ ?_)));(case side6=>exact (Kd.R_reads' HO_265003.out).2.1);rintro e w51 ⟨v278,rfl,ho0,hb⟩;refine ⟨_,rfl,?_⟩;have n0_:=aM_ (Kd.R_below (by exact rZ_ HO_265001) hb);have n1_:=aM_ (Kd.R_below (by exact rZ_ HO_265002) hb);have n2_:=aM_ (Kd.R_below (by exact rZ_ HO_265003) hb);have n3_:=aM_ (Kd.R_lower ho0 (bS_ (by exact bZ_ HB)));have n4_:=aM_ (blk_below (g:=gb255) (o:=.cells #[.bool false,.slice none 0 0,.slice none 0 0,.slice none 0 0] 29 (0,0)) (by exact kZ_ BK255) hb);have n5_:=aM_ (blk_below (g:=gb264) (o:=.cells #[.bool true,.slice Ao48 x265001_12.length co48,.slice Ao49 x265002_25.length co49,.slice Ao50 x265003_4.length co50] 29 (0,0)) (by exact kZ_ BK264) hb);have n6_:=aM_ (bT_ (by exact bZ_ HB) hb);clear HO_265001 HO_265002 HO_265003 BK255 BK264 HB;have HO_265001:=n0_;have HO_265002:=n1_;have HO_265003:=n2_;have HO279:=n3_;have BK255:=n4_;have BK264:=n5_;have HB:=n6_;clear n0_ n1_ n2_ n3_ n4_ n5_ n6_ hb ho0;obtain ⟨Ao52,co52,eo52⟩:=Kd.R_slice HO279.out;subst eo52;have hcz53_0 : w51.cell? ⟨gb255,0,none⟩ = some (.bool false):=(kC_ BK255.out 0).trans rfl;have hcz53_1 : w51.cell? ⟨gb255,1,none⟩ = some (.slice none 0 0):=(kC_ BK255.out 1).trans rfl;have hcz53_2 : w51.cell? ⟨gb255,2,none⟩ = some (.slice none 0 0):=(kC_ BK255.out 2).trans rfl;have hcz53_3 : w51.cell? ⟨gb255,3,none⟩ = some (.slice none 0 0):=(kC_ BK255.out 3).trans rfl;have hfz53_0:=kF_ BK255.out 0;have hfz53_1:=kF_ BK255.out 1;have hfz53_2:=kF_ BK255.out 2;have hfz53_3:=kF_ BK255.out 3))
             refine bodyPost_ret (results_ct rfl _ _ gb255 29 #[.bool false,.slice none 0 0,.slice none 0 0,.slice none 0 0] (0,0) _ rfl (by (with_reducible repeat (first | refine kN_ ?_ _ | refine kD_ ?_ | refine kA_ ?_ _));refine kP_ (cs:=#[.bool false,.slice none 0 0,.slice none 0 0,.slice none 0 0]) ?_ 3 _ rfl;(with_reducible repeat (first | refine kN_ ?_ _ | refine kD_ ?_ | refine kA_ ?_ _));refine kP_ (cs:=#[.bool false,.slice none 0 0,.slice none 0 0,.slice none 0 0]) ?_ 2 _ rfl;(with_reducible repeat (first | refine kN_ ?_ _ | refine kD_ ?_ | refine kA_ ?_ _));refine kP_ (cs:=#[.bool false,.slice none 0 0,.slice none 0 0,.slice none 0 0]) ?_ 1 _ rfl;(with_reducible repeat (first | refine kN_ ?_ _ | refine kD_ ?_ | refine kA_ ?_ _));refine kP_ (cs:=#[.bool false,.slice none 0 0,.slice none 0 0,.slice none 0 0]) ?_ 0 _ rfl;exact kZ_ BK255) Try.underlying29 rfl (by kernel_rfl)) rfl ?_
             exact ⟨_,_,_,by first | rfl | (simp [errW_none,errW_some] <;> rfl) | (simp [*, errW_none,errW_some] <;> rfl),by first | exact Kd.R_nil _ _ _ _ _ | exact Kd.N_nil _ _ _ _ _ | exact Kd.V_nil _ _ _ _ _ | exact Kd.Q_nil _ _ _ _ _ | exact Kd.S_nil _ _ _ _ _,by first | exact Kd.R_nil _ _ _ _ _ | exact Kd.N_nil _ _ _ _ _ | exact Kd.V_nil _ _ _ _ _ | exact Kd.Q_nil _ _ _ _ _ | exact Kd.S_nil _ _ _ _ _,by first | exact Kd.R_nil _ _ _ _ _ | exact Kd.N_nil _ _ _ _ _ | exact Kd.V_nil _ _ _ _ _ | exact Kd.Q_nil _ _ _ _ _ | exact Kd.S_nil _ _ _ _ _,by exact bZ_ HB⟩
            ·rw [if_neg c45] at H
             have c45b0 : ((t277.length : Int) == 0) = false:=beq_eq_false_iff_ne.mpr c45
             have c45b1 : ((t277.length : Int) != 0) = true:=bne_iff_ne.mpr c45
             have c45b2 : ¬ (t277 = []):=fun h_=>c45 (by rw [h_];rfl)
             by_cases c54 : (strOfNums t277).toList = (strOfNums l0).toList
             ·rw [if_pos c54] at H
              have c54b0 : ((strOfNums t277).toList == (strOfNums l0).toList) = true:=beq_iff_eq.mpr c54
              have c54b1 : ((strOfNums t277).toList != (strOfNums l0).toList) = false:=bne_eq_false_iff_eq.mpr c54
              clear c54
              simp only [Option.some.injEq,Prod.mk.injEq] at H
              obtain ⟨rfl,rfl,rfl,rfl,rfl⟩:=H
              have hnb55:=NB264_255.out
              have hnc55:=NB255_264.out
              have hcz56_0 : wr.cell? ⟨gb264,0,none⟩ = some (.bool true):=(kC_ BK264.out 0).trans rfl
              have hcz56_1 : wr.cell? ⟨gb264,1,none⟩ = some (u265001):=(kC_ BK264.out 1).trans rfl
              have hcz56_2 : wr.cell? ⟨gb264,2,none⟩ = some (u265002):=(kC_ BK264.out 2).trans rfl
              have hcz56_3 : wr.cell? ⟨gb264,3,none⟩ = some (u265003):=(kC_ BK264.out 3).trans rfl
              have hfz56_0:=kF_ BK264.out 0
              have hfz56_1:=kF_ BK264.out 1
              have hfz56_2:=kF_ BK264.out 2
              have hfz56_3:=kF_ BK264.out 3
              obtain ⟨Ao57,co57,eo57⟩:=Kd.R_slice HO_265001.out
              subst eo57
              obtain ⟨Ao58,co58,eo58⟩:=Kd.R_slice HO_265002.out
              subst eo58
              obtain ⟨Ao59,co59,eo59⟩:=Kd.R_slice HO_265003.out
              subst eo59
              go_wp2_with (first | ((with_reducible refine gate_callee (f:=15) rfl ?_);refine goesL_ (some 122) rfl rfl Try.func15 (by kernel_rfl) rfl #[.agg #[.bool true,.slice Ao57 x265001_12.length co57,.slice Ao58 x265002_25.length co58,.slice Ao59 x265003_4.length co59]] rfl (by (try simp only [mA_,mC_,mN_]);first | done | rfl | (simp only [lD_,lT_];rfl)) ?_;(with_reducible refine (impl_PutNode.calls k4 true _ _ x265001_12 _ _ x265002_25 _ _ x265003_4 t277 _ ?side1 ?side2 ?side3 ?side4 ?side5 ?side6 A44.out).mono ?_);(case side1=>repeat (first | exact (Kd.R_reads' HO_265001.out).2.2 | (with_reducible refine cA_ ?_ _) | (with_reducible refine cN_ ?_ _) | (with_reducible refine cD_ ?_)));(case side2=>exact (Kd.R_reads' HO_265001.out).2.1);(case side3=>repeat (first | exact (Kd.R_reads' HO_265002.out).2.2 | (with_reducible refine cA_ ?_ _) | (with_reducible refine cN_ ?_ _) | (with_reducible refine cD_ ?_)));(case side4=>exact (Kd.R_reads' HO_265002.out).2.1);(case side5=>repeat (first | exact (Kd.R_reads' HO_265003.out).2.2 | (with_reducible refine cA_ ?_ _) | (with_reducible refine cN_ ?_ _) | (with_reducible refine cD_ ?_)));(case side6=>exact (Kd.R_reads' HO_265003.out).2.1);rintro e w60 ⟨v278,rfl,ho0,hb⟩;refine ⟨_,rfl,?_⟩;have n0_:=aM_ (Kd.R_below (by exact rZ_ HO_265001) hb);have n1_:=aM_ (Kd.R_below (by exact rZ_ HO_265002) hb);have n2_:=aM_ (Kd.R_below (by exact rZ_ HO_265003) hb);have n3_:=aM_ (Kd.R_lower ho0 (bS_ (by exact bZ_ HB)));have n4_:=aM_ (blk_below (g:=gb255) (o:=.cells #[.bool false,.slice none 0 0,.slice none 0 0,.slice none 0 0] 29 (0,0)) (by exact kZ_ BK255) hb);have n5_:=aM_ (blk_below (g:=gb264) (o:=.cells #[.bool true,.slice Ao57 x265001_12.length co57,.slice Ao58 x265002_25.length co58,.slice Ao59 x265003_4.length co59] 29 (0,0)) (by exact kZ_ BK264) hb);have n6_:=aM_ (bT_ (by exact bZ_ HB) hb);clear HO_265001 HO_265002 HO_265003 BK255 BK264 HB;have HO_265001:=n0_;have HO_265002:=n1_;have HO_265003:=n2_;have HO279:=n3_;have BK255:=n4_;have BK264:=n5_;have HB:=n6_;clear n0_ n1_ n2_ n3_ n4_ n5_ n6_ hb ho0;obtain ⟨Ao61,co61,eo61⟩:=Kd.R_slice HO279.out;subst eo61;have hcv62:=own_string (P:=Try.prog) Try.underlying27 Try.underlying5 Try.underlying9 (Kd.own_of_R HO279.out);have hcv63:=Kd.C_string (P:=Try.prog) (A:=A0) (c:=c0) Try.underlying27 Try.underlying5 Try.underlying9 (Kd.C_below HR0.out HB.out);have hcw292:=fun (n_ : Nat)=>Kd.C_string (P:=Try.prog) (A:=A0) (c:=c0) Try.underlying27 Try.underlying5 Try.underlying9 (cN_ ((Kd.C_below HR0.out HB.out)) n_);have hcz64_0 : w60.cell? ⟨gb264,0,none⟩ = some (.bool true):=(kC_ BK264.out 0).trans rfl;have hcz64_1 : w60.cell? ⟨gb264,1,none⟩ = some (.slice Ao57 x265001_12.length co57):=(kC_ BK264.out 1).trans rfl;have hcz64_2 : w60.cell? ⟨gb264,2,none⟩ = some (.slice Ao58 x265002_25.length co58):=(kC_ BK264.out 2).trans rfl;have hcz64_3 : w60.cell? ⟨gb264,3,none⟩ = some (.slice Ao59 x265003_4.length co59):=(kC_ BK264.out 3).trans rfl;have hfz64_0:=kF_ BK264.out 0;have hfz64_1:=kF_ BK264.out 1;have hfz64_2:=kF_ BK264.out 2;have hfz64_3:=kF_ BK264.out 3;have hcz65_0 : w60.cell? ⟨gb255,0,none⟩ = some (.bool false):=(kC_ BK255.out 0).trans rfl;have hcz65_1 : w60.cell? ⟨gb255,1,none⟩ = some (.slice none 0 0):=(kC_ BK255.out 1).trans rfl;have hcz65_2 : w60.cell? ⟨gb255,2,none⟩ = some (.slice none 0 0):=(kC_ BK255.out 2).trans rfl;have hcz65_3 : w60.cell? ⟨gb255,3,none⟩ = some (.slice none 0 0):=(kC_ BK255.out 3).trans rfl;have hfz65_0:=kF_ BK255.out 0;have hfz65_1:=kF_ BK255.out 1;have hfz65_2:=kF_ BK255.out 2;have hfz65_3:=kF_ BK255.out 3))
              refine bodyPost_ret (results_ct rfl _ _ gb255 29 #[.bool true,.slice Ao57 x265001_12.length co57,.slice Ao58 x265002_25.length co58,.slice Ao59 x265003_4.length co59] (0,0) _ rfl (by (with_reducible repeat (first | refine kN_ ?_ _ | refine kD_ ?_ | refine kA_ ?_ _));refine kP_ (cs:=#[.bool true,.slice Ao57 x265001_12.length co57,.slice Ao58 x265002_25.length co58,.slice none 0 0]) ?_ 3 _ rfl;(with_reducible repeat (first | refine kN_ ?_ _ | refine kD_ ?_ | refine kA_ ?_ _));refine kP_ (cs:=#[.bool true,.slice Ao57 x265001_12.length co57,.slice none 0 0,.slice none 0 0]) ?_ 2 _ rfl;(with_reducible repeat (first | refine kN_ ?_ _ | refine kD_ ?_ | refine kA_ ?_ _));refine kP_ (cs:=#[.bool true,.slice none 0 0,.slice none 0 0,.slice none 0 0]) ?_ 1 _ rfl;(with_reducible repeat (first | refine kN_ ?_ _ | refine kD_ ?_ | refine kA_ ?_ _));refine kP_ (cs:=#[.bool false,.slice none 0 0,.slice none 0 0,.slice none 0 0]) ?_ 0 _ rfl;exact kZ_ BK255) Try.underlying29 rfl (by kernel_rfl)) rfl ?_
              exact ⟨_,_,_,by first | rfl | (simp [errW_none,errW_some] <;> rfl) | (simp [*, errW_none,errW_some] <;> rfl),by (with_reducible repeat (first | apply rA_ | apply rN_ | apply rD_));exact Kd.R_mono (Kd.R_far (p:=⟨gb255,3,none⟩) (Kd.R_far (p:=⟨gb255,2,none⟩) (Kd.R_far (p:=⟨gb255,1,none⟩) (Kd.R_far (p:=⟨gb255,0,none⟩) (Kd.R_types HO_265001.out BK255.out (by decide)) (fun _ hk=>hk.2) (.bool true)) (fun _ hk=>hk.2) (.slice Ao57 x265001_12.length co57)) (fun _ hk=>hk.2) (.slice Ao58 x265002_25.length co58)) (fun _ hk=>hk.2) (.slice Ao59 x265003_4.length co59)) (fun _ hk=>hk.1),by (with_reducible repeat (first | apply rA_ | apply rN_ | apply rD_));exact Kd.R_mono (Kd.R_far (p:=⟨gb255,3,none⟩) (Kd.R_far (p:=⟨gb255,2,none⟩) (Kd.R_far (p:=⟨gb255,1,none⟩) (Kd.R_far (p:=⟨gb255,0,none⟩) (Kd.R_types HO_265002.out BK255.out (by decide)) (fun _ hk=>hk.2) (.bool true)) (fun _ hk=>hk.2) (.slice Ao57 x265001_12.length co57)) (fun _ hk=>hk.2) (.slice Ao58 x265002_25.length co58)) (fun _ hk=>hk.2) (.slice Ao59 x265003_4.length co59)) (fun _ hk=>hk.1),by (with_reducible repeat (first | apply rA_ | apply rN_ | apply rD_));exact Kd.R_mono (Kd.R_far (p:=⟨gb255,3,none⟩) (Kd.R_far (p:=⟨gb255,2,none⟩) (Kd.R_far (p:=⟨gb255,1,none⟩) (Kd.R_far (p:=⟨gb255,0,none⟩) (Kd.R_types HO_265003.out BK255.out (by decide)) (fun _ hk=>hk.2) (.bool true)) (fun _ hk=>hk.2) (.slice Ao57 x265001_12.length co57)) (fun _ hk=>hk.2) (.slice Ao58 x265002_25.length co58)) (fun _ hk=>hk.2) (.slice Ao59 x265003_4.length co59)) (fun _ hk=>trivial),by exact bZ_ HB⟩
             ·rw [if_neg c54] at H
              have c54b0 : ((strOfNums t277).toList == (strOfNums l0).toList) = false:=beq_eq_false_iff_ne.mpr c54
              have c54b1 : ((strOfNums t277).toList != (strOfNums l0).toList) = true:=bne_iff_ne.mpr c54
              simp only [Option.some.injEq,Prod.mk.injEq] at H
              obtain ⟨rfl,rfl,rfl,rfl,rfl⟩:=H
              have hnb66:=NB264_255.out
              have hnc66:=NB255_264.out
              have hcz67_0 : wr.cell? ⟨gb264,0,none⟩ = some (.bool true):=(kC_ BK264.out 0).trans rfl
              have hcz67_1 : wr.cell? ⟨gb264,1,none⟩ = some (u265001):=(kC_ BK264.out 1).trans rfl
              have hcz67_2 : wr.cell? ⟨gb264,2,none⟩ = some (u265002):=(kC_ BK264.out 2).trans rfl
              have hcz67_3 : wr.cell? ⟨gb264,3,none⟩ = some (u265003):=(kC_ BK264.out 3).trans rfl
              have hfz67_0:=kF_ BK264.out 0
              have hfz67_1:=kF_ BK264.out 1
              have hfz67_2:=kF_ BK264.out 2
              have hfz67_3:=kF_ BK264.out 3
              obtain ⟨Ao68,co68,eo68⟩:=Kd.R_slice HO_265001.out
              subst eo68
              obtain ⟨Ao69,co69,eo69⟩:=Kd.R_slice HO_265002.out
              subst eo69
              obtain ⟨Ao70,co70,eo70⟩:=Kd.R_slice HO_265003.out
              subst eo70
              go_wp2_with (first | ((with_reducible refine gate_callee (f:=15) rfl ?_);refine goesL_ (some 122) rfl rfl Try.func15 (by kernel_rfl) rfl #[.agg #[.bool true,.slice Ao68 x265001_12.length co68,.slice Ao69 x265002_25.length co69,.slice Ao70 x265003_4.length co70]] rfl (by (try simp only [mA_,mC_,mN_]);first | done | rfl | (simp only [lD_,lT_];rfl)) ?_;(with_reducible refine (impl_PutNode.calls k4 true _ _ x265001_12 _ _ x265002_25 _ _ x265003_4 t277 _ ?side1 ?side2 ?side3 ?side4 ?side5 ?side6 A44.out).mono ?_);(case side1=>repeat (first | exact (Kd.R_reads' HO_265001.out).2.2 | (with_reducible refine cA_ ?_ _) | (with_reducible refine cN_ ?_ _) | (with_reducible refine cD_ ?_)));(case side2=>exact (Kd.R_reads' HO_265001.out).2.1);(case side3=>repeat (first | exact (Kd.R_reads' HO_265002.out).2.2 | (with_reducible refine cA_ ?_ _) | (with_reducible refine cN_ ?_ _) | (with_reducible refine cD_ ?_)));(case side4=>exact (Kd.R_reads' HO_265002.out).2.1);(case side5=>repeat (first | exact (Kd.R_reads' HO_265003.out).2.2 | (with_reducible refine cA_ ?_ _) | (with_reducible refine cN_ ?_ _) | (with_reducible refine cD_ ?_)));(case side6=>exact (Kd.R_reads' HO_265003.out).2.1);rintro e w71 ⟨v278,rfl,ho0,hb⟩;refine ⟨_,rfl,?_⟩;have n0_:=aM_ (Kd.R_below (by exact rZ_ HO_265001) hb);have n1_:=aM_ (Kd.R_below (by exact rZ_ HO_265002) hb);have n2_:=aM_ (Kd.R_below (by exact rZ_ HO_265003) hb);have n3_:=aM_ (Kd.R_lower ho0 (bS_ (by exact bZ_ HB)));have n4_:=aM_ (blk_below (g:=gb255) (o:=.cells #[.bool false,.slice none 0 0,.slice none 0 0,.slice none 0 0] 29 (0,0)) (by exact kZ_ BK255) hb);have n5_:=aM_ (blk_below (g:=gb264) (o:=.cells #[.bool true,.slice Ao68 x265001_12.length co68,.slice Ao69 x265002_25.length co69,.slice Ao70 x265003_4.length co70] 29 (0,0)) (by exact kZ_ BK264) hb);have n6_:=aM_ (bT_ (by exact bZ_ HB) hb);clear HO_265001 HO_265002 HO_265003 BK255 BK264 HB;have HO_265001:=n0_;have HO_265002:=n1_;have HO_265003:=n2_;have HO279:=n3_;have BK255:=n4_;have BK264:=n5_;have HB:=n6_;clear n0_ n1_ n2_ n3_ n4_ n5_ n6_ hb ho0;obtain ⟨Ao72,co72,eo72⟩:=Kd.R_slice HO279.out;subst eo72;have hcv73:=own_string (P:=Try.prog) Try.underlying27 Try.underlying5 Try.underlying9 (Kd.own_of_R HO279.out);have hcv74:=Kd.C_string (P:=Try.prog) (A:=A0) (c:=c0) Try.underlying27 Try.underlying5 Try.underlying9 (Kd.C_below HR0.out HB.out);have hcw293:=fun (n_ : Nat)=>Kd.C_string (P:=Try.prog) (A:=A0) (c:=c0) Try.underlying27 Try.underlying5 Try.underlying9 (cN_ ((Kd.C_below HR0.out HB.out)) n_);have hcz75_0 : w71.cell? ⟨gb255,0,none⟩ = some (.bool false):=(kC_ BK255.out 0).trans rfl;have hcz75_1 : w71.cell? ⟨gb255,1,none⟩ = some (.slice none 0 0):=(kC_ BK255.out 1).trans rfl;have hcz75_2 : w71.cell? ⟨gb255,2,none⟩ = some (.slice none 0 0):=(kC_ BK255.out 2).trans rfl;have hcz75_3 : w71.cell? ⟨gb255,3,none⟩ = some (.slice none 0 0):=(kC_ BK255.out 3).trans rfl;have hfz75_0:=kF_ BK255.out 0;have hfz75_1:=kF_ BK255.out 1;have hfz75_2:=kF_ BK255.out 2;have hfz75_3:=kF_ BK255.out 3))
              refine bodyPost_ret (results_ct rfl _ _ gb255 29 #[.bool false,.slice none 0 0,.slice none 0 0,.slice none 0 0] (0,0) _ rfl (by (with_reducible repeat (first | refine kN_ ?_ _ | refine kD_ ?_ | refine kA_ ?_ _));refine kP_ (cs:=#[.bool false,.slice none 0 0,.slice none 0 0,.slice none 0 0]) ?_ 3 _ rfl;(with_reducible repeat (first | refine kN_ ?_ _ | refine kD_ ?_ | refine kA_ ?_ _));refine kP_ (cs:=#[.bool false,.slice none 0 0,.slice none 0 0,.slice none 0 0]) ?_ 2 _ rfl;(with_reducible repeat (first | refine kN_ ?_ _ | refine kD_ ?_ | refine kA_ ?_ _));refine kP_ (cs:=#[.bool false,.slice none 0 0,.slice none 0 0,.slice none 0 0]) ?_ 1 _ rfl;(with_reducible repeat (first | refine kN_ ?_ _ | refine kD_ ?_ | refine kA_ ?_ _));refine kP_ (cs:=#[.bool false,.slice none 0 0,.slice none 0 0,.slice none 0 0]) ?_ 0 _ rfl;exact kZ_ BK255) Try.underlying29 rfl (by kernel_rfl)) rfl ?_
              exact ⟨_,_,_,by first | rfl | (simp [errW_none,errW_some] <;> rfl) | (simp [*, errW_none,errW_some] <;> rfl),by first | exact Kd.R_nil _ _ _ _ _ | exact Kd.N_nil _ _ _ _ _ | exact Kd.V_nil _ _ _ _ _ | exact Kd.Q_nil _ _ _ _ _ | exact Kd.S_nil _ _ _ _ _,by first | exact Kd.R_nil _ _ _ _ _ | exact Kd.N_nil _ _ _ _ _ | exact Kd.V_nil _ _ _ _ _ | exact Kd.Q_nil _ _ _ _ _ | exact Kd.S_nil _ _ _ _ _,by first | exact Kd.R_nil _ _ _ _ _ | exact Kd.N_nil _ _ _ _ _ | exact Kd.V_nil _ _ _ _ _ | exact Kd.Q_nil _ _ _ _ _ | exact Kd.S_nil _ _ _ _ _,by exact bZ_ HB⟩
           ·replace c43:=Bool.eq_false_iff.mpr c43
            subst c43
            have H1 : (if x14_4 ≤ t259 then ((impl_GetU.f k4 l0 x5_4).bind fun bt280=>(if x265003_4.length < 17592186044416 then (impl_GetNode.l2 k4 l0 bt280.2.1 bt280.2.2 t259 (wrap64 (x14_4 + 1)) false x265001_12 x265002_25 (x265003_4 ++ [bt280.1])) else (none))) else ((impl_PutNode.f k4 false x265001_12 x265002_25 x265003_4).bind fun t286=>(if (t286.length : Int) = 0 then (some (false,([] : List ByteArray),([] : List ByteArray),([] : List Int),false)) else (if (strOfNums t286).toList = (strOfNums l0).toList then (some (false,x265001_12,x265002_25,x265003_4,true)) else (some (false,([] : List ByteArray),([] : List ByteArray),([] : List Int),false)))))) = some (r1,r2,r3,r4,r5):=by rw [if_neg (show ¬ (false = true) by decide)] at H;exact H
            clear H
            have H:=H1
            clear H1
            by_cases c76 : x14_4 ≤ t259
            ·rw [if_pos c76] at H
             have c76b0 : decide (x14_4 ≤ t259) = true:=decide_eq_true c76
             clear c76
             replace H:=oB_ H
             obtain ⟨⟨t280,t281,t282⟩,A770,H⟩:=H
             replace H : (if x265003_4.length < 17592186044416 then (impl_GetNode.l2 k4 l0 t281 t282 t259 (wrap64 (x14_4 + 1)) false x265001_12 x265002_25 (x265003_4 ++ [t280])) else (none)) = some (r1,r2,r3,r4,r5):=H
             have A77:=aM_ A770
             clear A770
             by_cases c78 : x265003_4.length < 17592186044416
             ·rw [if_pos c78] at H
              have LMc78:=aM_ c78
              clear c78
              obtain ⟨y283,hy283⟩ : ∃ y_ : List Int,y_ = (x265003_4 ++ [t280]):=⟨_,rfl⟩
              replace H : (impl_GetNode.l2 k4 l0 t281 t282 t259 (wrap64 (x14_4 + 1)) false x265001_12 x265002_25 y283) = some (r1,r2,r3,r4,r5):=by first | (rw [hy283];with_reducible exact H) | (have H2_:=(Option.bind_some _ _).symm.trans H;rw [hy283];with_reducible exact H2_) | (have H2_:=(Option.bind_some _ _).symm.trans H;with_reducible exact H2_) | with_reducible exact H | (rw [hy283];exact H) | exact H
              have Ny283:=aM_ hy283
              clear hy283
              have H':=aM_ H
              clear H
              have hnb79:=NB264_255.out
              have hnc79:=NB255_264.out
              have hcz80_0 : wr.cell? ⟨gb264,0,none⟩ = some (.bool false):=(kC_ BK264.out 0).trans rfl
              have hcz80_1 : wr.cell? ⟨gb264,1,none⟩ = some (u265001):=(kC_ BK264.out 1).trans rfl
              have hcz80_2 : wr.cell? ⟨gb264,2,none⟩ = some (u265002):=(kC_ BK264.out 2).trans rfl
              have hcz80_3 : wr.cell? ⟨gb264,3,none⟩ = some (u265003):=(kC_ BK264.out 3).trans rfl
              have hfz80_0:=kF_ BK264.out 0
              have hfz80_1:=kF_ BK264.out 1
              have hfz80_2:=kF_ BK264.out 2
              have hfz80_3:=kF_ BK264.out 3
              go_wp2_with (first | ((with_reducible refine gate_callee (f:=78) rfl ?_);refine goesL_ (some 111) rfl rfl Try.func78 (by kernel_rfl) rfl #[.slice A0 l0.length c0,.int .i64 x5_4] rfl (by (try simp only [mA_,mC_,mN_]);first | done | rfl | (simp only [lD_,lT_];rfl)) ?_;(with_reducible refine (impl_GetU.calls k4 _ _ l0 x5_4 t280 t281 t282 _ ?side1 ?side2 A77.out).mono ?_);(case side1=>repeat (first | exact (Kd.C_below HR0.out HB.out) | (with_reducible refine cA_ ?_ _) | (with_reducible refine cN_ ?_ _) | (with_reducible refine cD_ ?_)));(case side2=>exact HC0.out);rintro e w' ⟨rfl,⟨nd,rfl⟩⟩;refine ⟨_,rfl,?_⟩;(try (rw [drewN_self wr];generalize hq_ : World.drewN wr _ = wr;have n0_ : Aside0 (Kd.R Kd.string 9 wr w.heap.size (fun k_=>some k_ ≠ (u265002 : Value).ownBlock) u265001 x265001_12):=⟨by rw [← hq_];exact (by exact rZ_ HO_265001)⟩;have n1_ : Aside0 (Kd.R Kd.string 9 wr w.heap.size (fun k_=>some k_ ≠ (u265001 : Value).ownBlock) u265002 x265002_25):=⟨by rw [← hq_];exact (by exact rZ_ HO_265002)⟩;have n2_ : Aside0 (Kd.R (Kd.int .i64) 3 wr w.heap.size (fun _=>True) u265003 x265003_4):=⟨by rw [← hq_];exact (by exact rZ_ HO_265003)⟩;have n3_ : Aside0 (wr.heap[gb255]? = some (.cells #[.bool false,.slice none 0 0,.slice none 0 0,.slice none 0 0] 29 (0,0))):=⟨by rw [← hq_];exact (by exact kZ_ BK255)⟩;have n4_ : Aside0 (wr.heap[gb264]? = some (.cells #[.bool false,u265001,u265002,u265003] 29 (0,0))):=⟨by rw [← hq_];exact (by exact kZ_ BK264)⟩;have n5_ : Aside0 (Below w.heap.size w wr):=⟨by rw [← hq_];exact (by exact bZ_ HB)⟩;clear HO_265001 HO_265002 HO_265003 BK255 BK264 HB hq_;have HO_265001:=n0_;have HO_265002:=n1_;have HO_265003:=n2_;have BK255:=n3_;have BK264:=n4_;have HB:=n5_;clear n0_ n1_ n2_ n3_ n4_ n5_));have hcz81_0 : wr.cell? ⟨gb264,0,none⟩ = some (.bool false):=(kC_ BK264.out 0).trans rfl;have hcz81_1 : wr.cell? ⟨gb264,1,none⟩ = some (u265001):=(kC_ BK264.out 1).trans rfl;have hcz81_2 : wr.cell? ⟨gb264,2,none⟩ = some (u265002):=(kC_ BK264.out 2).trans rfl;have hcz81_3 : wr.cell? ⟨gb264,3,none⟩ = some (u265003):=(kC_ BK264.out 3).trans rfl;have hfz81_0:=kF_ BK264.out 0;have hfz81_1:=kF_ BK264.out 1;have hfz81_2:=kF_ BK264.out 2;have hfz81_3:=kF_ BK264.out 3) | ((with_reducible refine gate_builtin (b:=.append) (xs:=#[.tmp 116,.tmp 118]) rfl ?_);(try (refine gate_guard (by rfl) ?_;dsimp only));at_builtin;refine Kd.R_append (Kd.int .i64) (w0:=w) w.heap.size rfl (.tmp 116) (.tmp 118) 23 3 (.int .i64 0) 8 rfl Try.underlying23 info3 rfl (by decide) (by omega) u265003 x265003_4 t280 [.int .i64 t280] (fun _=>True) (fun _=>False) rfl rfl ?aP (fun _ hk=>hk.elim) ?aF ?aO ?aB ?aS ?aL ?_;(case aP=>exact rfl);(case aB=>exact (by exact bZ_ HB));(case aF=>exact (fun _ _=>trivial));(case aO=>exact (by exact rZ_ HO_265003));(case aS=>exact (bS_ (by exact bZ_ HB)));(case aL=>have:=LMc78.out;omega);intro v284 w82 ho hb hg hat;rw [← Ny283.out] at ho;have n0_:=aM_ (Kd.R_over' (by exact rZ_ HO_265001) (Kd.R_typed (by exact rZ_ HO_265003)) (by decide) hg);have n1_:=aM_ (Kd.R_over' (by exact rZ_ HO_265002) (Kd.R_typed (by exact rZ_ HO_265003)) (by decide) hg);have n2_:=aM_ (blk_grown (g:=gb255) (o:=.cells #[.bool false,.slice none 0 0,.slice none 0 0,.slice none 0 0] 29 (0,0)) (by exact kZ_ BK255) hg (Kd.R_ne HO_265003.out BK255.out (by decide)));have n3_:=aM_ (blk_grown (g:=gb264) (o:=.cells #[.bool false,u265001,u265002,u265003] 29 (0,0)) (by exact kZ_ BK264) hg (Kd.R_ne HO_265003.out BK264.out (by decide)));have n4_:=aM_ (hb);have n5_:=aM_ (ho);clear HO_265001 HO_265002 BK255 BK264 HB HO_265003;have HO_265001:=n0_;have HO_265002:=n1_;have BK255:=n2_;have BK264:=n3_;have HB:=n4_;have HO285:=n5_;clear n0_ n1_ n2_ n3_ n4_ n5_ ho hb hg hat;obtain ⟨Ao83,co83,eo83⟩:=Kd.R_slice HO285.out;subst eo83;have hcz84_0 : w82.cell? ⟨gb264,0,none⟩ = some (.bool false):=(kC_ BK264.out 0).trans rfl;have hcz84_1 : w82.cell? ⟨gb264,1,none⟩ = some (u265001):=(kC_ BK264.out 1).trans rfl;have hcz84_2 : w82.cell? ⟨gb264,2,none⟩ = some (u265002):=(kC_ BK264.out 2).trans rfl;have hcz84_3 : w82.cell? ⟨gb264,3,none⟩ = some (u265003):=(kC_ BK264.out 3).trans rfl;have hfz84_0:=kF_ BK264.out 0;have hfz84_1:=kF_ BK264.out 1;have hfz84_2:=kF_ BK264.out 2;have hfz84_3:=kF_ BK264.out 3))
              go_roundg k4
              case measure=>have:=HJ6.out;have:=HJ12.out;have:=HJ25.out;have:=HK4.out;omega
              case rel=>exact ⟨(t281),(t282),(wrap64 (x14_4 + 1)),(y283),(.slice Ao83 y283.length co83),(by first | rfl | (simp;done) | (simp [*];done)),(by first | rfl | (simp;done) | (simp [*];done)),(by first | rfl | (simp;done) | (simp [*];done)),H', ⟨by have:=HJ6.out;have:=HJ12.out;have:=HJ25.out;have:=HK4.out;omega⟩,⟨by (with_reducible repeat (first | apply rA_ | apply rN_ | apply rD_));exact Kd.R_mono (Kd.R_far (p:=⟨gb264,3,none⟩) (Kd.R_types HO_265001.out BK264.out (by decide)) (fun _ hk=>hk.2) (.slice Ao83 y283.length co83)) (fun _ hk=>hk.1)⟩,⟨by (with_reducible repeat (first | apply rA_ | apply rN_ | apply rD_));exact Kd.R_mono (Kd.R_far (p:=⟨gb264,3,none⟩) (Kd.R_types HO_265002.out BK264.out (by decide)) (fun _ hk=>hk.2) (.slice Ao83 y283.length co83)) (fun _ hk=>hk.1)⟩,⟨by (with_reducible repeat (first | apply rA_ | apply rN_ | apply rD_));exact Kd.R_mono (Kd.R_far (p:=⟨gb264,3,none⟩) (Kd.R_types HO285.out BK264.out (by decide)) (fun _ hk=>hk.2) (.slice Ao83 y283.length co83)) (fun _ hk=>trivial)⟩,⟨by exact kW_ BK255⟩,⟨by (with_reducible repeat (first | refine kN_ ?_ _ | refine kD_ ?_ | refine kA_ ?_ _));refine kP_ (cs:=#[.bool false,u265001,u265002,u265003]) ?_ 3 _ rfl;exact kZ_ BK264⟩,⟨by exact bZ_ HB⟩⟩
             ·rw [if_neg c78] at H
              exact absurd H (by simp)
            ·rw [if_neg c76] at H
             have c76b0 : decide (x14_4 ≤ t259) = false:=decide_eq_false c76
             clear c76
             replace H:=oB_ H
             obtain ⟨t286,A850,H⟩:=H
             replace H : (if (t286.length : Int) = 0 then (some (false,([] : List ByteArray),([] : List ByteArray),([] : List Int),false)) else (if (strOfNums t286).toList = (strOfNums l0).toList then (some (false,x265001_12,x265002_25,x265003_4,true)) else (some (false,([] : List ByteArray),([] : List ByteArray),([] : List Int),false)))) = some (r1,r2,r3,r4,r5):=H
             have A85:=aM_ A850
             clear A850
             by_cases c86 : (t286.length : Int) = 0
             ·rw [if_pos c86] at H
              have c86b0 : ((t286.length : Int) == 0) = true:=beq_iff_eq.mpr c86
              have c86b1 : ((t286.length : Int) != 0) = false:=bne_eq_false_iff_eq.mpr c86
              clear c86
              simp only [Option.some.injEq,Prod.mk.injEq] at H
              obtain ⟨rfl,rfl,rfl,rfl,rfl⟩:=H
              have hnb87:=NB264_255.out
              have hnc87:=NB255_264.out
              have hcz88_0 : wr.cell? ⟨gb264,0,none⟩ = some (.bool false):=(kC_ BK264.out 0).trans rfl
              have hcz88_1 : wr.cell? ⟨gb264,1,none⟩ = some (u265001):=(kC_ BK264.out 1).trans rfl
              have hcz88_2 : wr.cell? ⟨gb264,2,none⟩ = some (u265002):=(kC_ BK264.out 2).trans rfl
              have hcz88_3 : wr.cell? ⟨gb264,3,none⟩ = some (u265003):=(kC_ BK264.out 3).trans rfl
              have hfz88_0:=kF_ BK264.out 0
              have hfz88_1:=kF_ BK264.out 1
              have hfz88_2:=kF_ BK264.out 2
              have hfz88_3:=kF_ BK264.out 3
              obtain ⟨Ao89,co89,eo89⟩:=Kd.R_slice HO_265001.out
              subst eo89
              obtain ⟨Ao90,co90,eo90⟩:=Kd.R_slice HO_265002.out
              subst eo90
              obtain ⟨Ao91,co91,eo91⟩:=Kd.R_slice HO_265003.out
              subst eo91
              go_wp2_with (first | ((with_reducible refine gate_callee (f:=15) rfl ?_);refine goesL_ (some 122) rfl rfl Try.func15 (by kernel_rfl) rfl #[.agg #[.bool false,.slice Ao89 x265001_12.length co89,.slice Ao90 x265002_25.length co90,.slice Ao91 x265003_4.length co91]] rfl (by (try simp only [mA_,mC_,mN_]);first | done | rfl | (simp only [lD_,lT_];rfl)) ?_;(with_reducible refine (impl_PutNode.calls k4 false _ _ x265001_12 _ _ x265002_25 _ _ x265003_4 t286 _ ?side1 ?side2 ?side3 ?side4 ?side5 ?side6 A85.out).mono ?_);(case side1=>repeat (first | exact (Kd.R_reads' HO_265001.out).2.2 | (with_reducible refine cA_ ?_ _) | (with_reducible refine cN_ ?_ _) | (with_reducible refine cD_ ?_)));(case side2=>exact (Kd.R_reads' HO_265001.out).2.1);(case side3=>repeat (first | exact (Kd.R_reads' HO_265002.out).2.2 | (with_reducible refine cA_ ?_ _) | (with_reducible refine cN_ ?_ _) | (with_reducible refine cD_ ?_)));(case side4=>exact (Kd.R_reads' HO_265002.out).2.1);(case side5=>repeat (first | exact (Kd.R_reads' HO_265003.out).2.2 | (with_reducible refine cA_ ?_ _) | (with_reducible refine cN_ ?_ _) | (with_reducible refine cD_ ?_)));(case side6=>exact (Kd.R_reads' HO_265003.out).2.1);rintro e w92 ⟨v287,rfl,ho0,hb⟩;refine ⟨_,rfl,?_⟩;have n0_:=aM_ (Kd.R_below (by exact rZ_ HO_265001) hb);have n1_:=aM_ (Kd.R_below (by exact rZ_ HO_265002) hb);have n2_:=aM_ (Kd.R_below (by exact rZ_ HO_265003) hb);have n3_:=aM_ (Kd.R_lower ho0 (bS_ (by exact bZ_ HB)));have n4_:=aM_ (blk_below (g:=gb255) (o:=.cells #[.bool false,.slice none 0 0,.slice none 0 0,.slice none 0 0] 29 (0,0)) (by exact kZ_ BK255) hb);have n5_:=aM_ (blk_below (g:=gb264) (o:=.cells #[.bool false,.slice Ao89 x265001_12.length co89,.slice Ao90 x265002_25.length co90,.slice Ao91 x265003_4.length co91] 29 (0,0)) (by exact kZ_ BK264) hb);have n6_:=aM_ (bT_ (by exact bZ_ HB) hb);clear HO_265001 HO_265002 HO_265003 BK255 BK264 HB;have HO_265001:=n0_;have HO_265002:=n1_;have HO_265003:=n2_;have HO288:=n3_;have BK255:=n4_;have BK264:=n5_;have HB:=n6_;clear n0_ n1_ n2_ n3_ n4_ n5_ n6_ hb ho0;obtain ⟨Ao93,co93,eo93⟩:=Kd.R_slice HO288.out;subst eo93;have hcz94_0 : w92.cell? ⟨gb255,0,none⟩ = some (.bool false):=(kC_ BK255.out 0).trans rfl;have hcz94_1 : w92.cell? ⟨gb255,1,none⟩ = some (.slice none 0 0):=(kC_ BK255.out 1).trans rfl;have hcz94_2 : w92.cell? ⟨gb255,2,none⟩ = some (.slice none 0 0):=(kC_ BK255.out 2).trans rfl;have hcz94_3 : w92.cell? ⟨gb255,3,none⟩ = some (.slice none 0 0):=(kC_ BK255.out 3).trans rfl;have hfz94_0:=kF_ BK255.out 0;have hfz94_1:=kF_ BK255.out 1;have hfz94_2:=kF_ BK255.out 2;have hfz94_3:=kF_ BK255.out 3))
              refine bodyPost_ret (results_ct rfl _ _ gb255 29 #[.bool false,.slice none 0 0,.slice none 0 0,.slice none 0 0] (0,0) _ rfl (by (with_reducible repeat (first | refine kN_ ?_ _ | refine kD_ ?_ | refine kA_ ?_ _));refine kP_ (cs:=#[.bool false,.slice none 0 0,.slice none 0 0,.slice none 0 0]) ?_ 3 _ rfl;(with_reducible repeat (first | refine kN_ ?_ _ | refine kD_ ?_ | refine kA_ ?_ _));refine kP_ (cs:=#[.bool false,.slice none 0 0,.slice none 0 0,.slice none 0 0]) ?_ 2 _ rfl;(with_reducible repeat (first | refine kN_ ?_ _ | refine kD_ ?_ | refine kA_ ?_ _));refine kP_ (cs:=#[.bool false,.slice none 0 0,.slice none 0 0,.slice none 0 0]) ?_ 1 _ rfl;(with_reducible repeat (first | refine kN_ ?_ _ | refine kD_ ?_ | refine kA_ ?_ _));refine kP_ (cs:=#[.bool false,.slice none 0 0,.slice none 0 0,.slice none 0 0]) ?_ 0 _ rfl;exact kZ_ BK255) Try.underlying29 rfl (by kernel_rfl)) rfl ?_
              exact ⟨_,_,_,by first | rfl | (simp [errW_none,errW_some] <;> rfl) | (simp [*, errW_none,errW_some] <;> rfl),by first | exact Kd.R_nil _ _ _ _ _ | exact Kd.N_nil _ _ _ _ _ | exact Kd.V_nil _ _ _ _ _ | exact Kd.Q_nil _ _ _ _ _ | exact Kd.S_nil _ _ _ _ _,by first | exact Kd.R_nil _ _ _ _ _ | exact Kd.N_nil _ _ _ _ _ | exact Kd.V_nil _ _ _ _ _ | exact Kd.Q_nil _ _ _ _ _ | exact Kd.S_nil _ _ _ _ _,by first | exact Kd.R_nil _ _ _ _ _ | exact Kd.N_nil _ _ _ _ _ | exact Kd.V_nil _ _ _ _ _ | exact Kd.Q_nil _ _ _ _ _ | exact Kd.S_nil _ _ _ _ _,by exact bZ_ HB⟩
             ·rw [if_neg c86] at H
              have c86b0 : ((t286.length : Int) == 0) = false:=beq_eq_false_iff_ne.mpr c86
              have c86b1 : ((t286.length : Int) != 0) = true:=bne_iff_ne.mpr c86
              have c86b2 : ¬ (t286 = []):=fun h_=>c86 (by rw [h_];rfl)
              by_cases c95 : (strOfNums t286).toList = (strOfNums l0).toList
              ·rw [if_pos c95] at H
               have c95b0 : ((strOfNums t286).toList == (strOfNums l0).toList) = true:=beq_iff_eq.mpr c95
               have c95b1 : ((strOfNums t286).toList != (strOfNums l0).toList) = false:=bne_eq_false_iff_eq.mpr c95
               clear c95
               simp only [Option.some.injEq,Prod.mk.injEq] at H
               obtain ⟨rfl,rfl,rfl,rfl,rfl⟩:=H
               have hnb96:=NB264_255.out
               have hnc96:=NB255_264.out
               have hcz97_0 : wr.cell? ⟨gb264,0,none⟩ = some (.bool false):=(kC_ BK264.out 0).trans rfl
               have hcz97_1 : wr.cell? ⟨gb264,1,none⟩ = some (u265001):=(kC_ BK264.out 1).trans rfl
               have hcz97_2 : wr.cell? ⟨gb264,2,none⟩ = some (u265002):=(kC_ BK264.out 2).trans rfl
               have hcz97_3 : wr.cell? ⟨gb264,3,none⟩ = some (u265003):=(kC_ BK264.out 3).trans rfl
               have hfz97_0:=kF_ BK264.out 0
               have hfz97_1:=kF_ BK264.out 1
               have hfz97_2:=kF_ BK264.out 2
               have hfz97_3:=kF_ BK264.out 3
               obtain ⟨Ao98,co98,eo98⟩:=Kd.R_slice HO_265001.out
               subst eo98
               obtain ⟨Ao99,co99,eo99⟩:=Kd.R_slice HO_265002.out
               subst eo99
               obtain ⟨Ao100,co100,eo100⟩:=Kd.R_slice HO_265003.out
               subst eo100
               go_wp2_with (first | ((with_reducible refine gate_callee (f:=15) rfl ?_);refine goesL_ (some 122) rfl rfl Try.func15 (by kernel_rfl) rfl #[.agg #[.bool false,.slice Ao98 x265001_12.length co98,.slice Ao99 x265002_25.length co99,.slice Ao100 x265003_4.length co100]] rfl (by (try simp only [mA_,mC_,mN_]);first | done | rfl | (simp only [lD_,lT_];rfl)) ?_;(with_reducible refine (impl_PutNode.calls k4 false _ _ x265001_12 _ _ x265002_25 _ _ x265003_4 t286 _ ?side1 ?side2 ?side3 ?side4 ?side5 ?side6 A85.out).mono ?_);(case side1=>repeat (first | exact (Kd.R_reads' HO_265001.out).2.2 | (with_reducible refine cA_ ?_ _) | (with_reducible refine cN_ ?_ _) | (with_reducible refine cD_ ?_)));(case side2=>exact (Kd.R_reads' HO_265001.out).2.1);(case side3=>repeat (first | exact (Kd.R_reads' HO_265002.out).2.2 | (with_reducible refine cA_ ?_ _) | (with_reducible refine cN_ ?_ _) | (with_reducible refine cD_ ?_)));(case side4=>exact (Kd.R_reads' HO_265002.out).2.1);(case side5=>repeat (first | exact (Kd.R_reads' HO_265003.out).2.2 | (with_reducible refine cA_ ?_ _) | (with_reducible refine cN_ ?_ _) | (with_reducible refine cD_ ?_)));(case side6=>exact (Kd.R_reads' HO_265003.out).2.1);rintro e w101 ⟨v287,rfl,ho0,hb⟩;refine ⟨_,rfl,?_⟩;have n0_:=aM_ (Kd.R_below (by exact rZ_ HO_265001) hb);have n1_:=aM_ (Kd.R_below (by exact rZ_ HO_265002) hb);have n2_:=aM_ (Kd.R_below (by exact rZ_ HO_265003) hb);have n3_:=aM_ (Kd.R_lower ho0 (bS_ (by exact bZ_ HB)));have n4_:=aM_ (blk_below (g:=gb255) (o:=.cells #[.bool false,.slice none 0 0,.slice none 0 0,.slice none 0 0] 29 (0,0)) (by exact kZ_ BK255) hb);have n5_:=aM_ (blk_below (g:=gb264) (o:=.cells #[.bool false,.slice Ao98 x265001_12.length co98,.slice Ao99 x265002_25.length co99,.slice Ao100 x265003_4.length co100] 29 (0,0)) (by exact kZ_ BK264) hb);have n6_:=aM_ (bT_ (by exact bZ_ HB) hb);clear HO_265001 HO_265002 HO_265003 BK255 BK264 HB;have HO_265001:=n0_;have HO_265002:=n1_;have HO_265003:=n2_;have HO288:=n3_;have BK255:=n4_;have BK264:=n5_;have HB:=n6_;clear n0_ n1_ n2_ n3_ n4_ n5_ n6_ hb ho0;obtain ⟨Ao102,co102,eo102⟩:=Kd.R_slice HO288.out;subst eo102;have hcv103:=own_string (P:=Try.prog) Try.underlying27 Try.underlying5 Try.underlying9 (Kd.own_of_R HO288.out);have hcv104:=Kd.C_string (P:=Try.prog) (A:=A0) (c:=c0) Try.underlying27 Try.underlying5 Try.underlying9 (Kd.C_below HR0.out HB.out);have hcw294:=fun (n_ : Nat)=>Kd.C_string (P:=Try.prog) (A:=A0) (c:=c0) Try.underlying27 Try.underlying5 Try.underlying9 (cN_ ((Kd.C_below HR0.out HB.out)) n_);have hcz105_0 : w101.cell? ⟨gb264,0,none⟩ = some (.bool false):=(kC_ BK264.out 0).trans rfl;have hcz105_1 : w101.cell? ⟨gb264,1,none⟩ = some (.slice Ao98 x265001_12.length co98):=(kC_ BK264.out 1).trans rfl;have hcz105_2 : w101.cell? ⟨gb264,2,none⟩ = some (.slice Ao99 x265002_25.length co99):=(kC_ BK264.out 2).trans rfl;have hcz105_3 : w101.cell? ⟨gb264,3,none⟩ = some (.slice Ao100 x265003_4.length co100):=(kC_ BK264.out 3).trans rfl;have hfz105_0:=kF_ BK264.out 0;have hfz105_1:=kF_ BK264.out 1;have hfz105_2:=kF_ BK264.out 2;have hfz105_3:=kF_ BK264.out 3;have hcz106_0 : w101.cell? ⟨gb255,0,none⟩ = some (.bool false):=(kC_ BK255.out 0).trans rfl;have hcz106_1 : w101.cell? ⟨gb255,1,none⟩ = some (.slice none 0 0):=(kC_ BK255.out 1).trans rfl;have hcz106_2 : w101.cell? ⟨gb255,2,none⟩ = some (.slice none 0 0):=(kC_ BK255.out 2).trans rfl;have hcz106_3 : w101.cell? ⟨gb255,3,none⟩ = some (.slice none 0 0):=(kC_ BK255.out 3).trans rfl;have hfz106_0:=kF_ BK255.out 0;have hfz106_1:=kF_ BK255.out 1;have hfz106_2:=kF_ BK255.out 2;have hfz106_3:=kF_ BK255.out 3))
               refine bodyPost_ret (results_ct rfl _ _ gb255 29 #[.bool false,.slice Ao98 x265001_12.length co98,.slice Ao99 x265002_25.length co99,.slice Ao100 x265003_4.length co100] (0,0) _ rfl (by (with_reducible repeat (first | refine kN_ ?_ _ | refine kD_ ?_ | refine kA_ ?_ _));refine kP_ (cs:=#[.bool false,.slice Ao98 x265001_12.length co98,.slice Ao99 x265002_25.length co99,.slice none 0 0]) ?_ 3 _ rfl;(with_reducible repeat (first | refine kN_ ?_ _ | refine kD_ ?_ | refine kA_ ?_ _));refine kP_ (cs:=#[.bool false,.slice Ao98 x265001_12.length co98,.slice none 0 0,.slice none 0 0]) ?_ 2 _ rfl;(with_reducible repeat (first | refine kN_ ?_ _ | refine kD_ ?_ | refine kA_ ?_ _));refine kP_ (cs:=#[.bool false,.slice none 0 0,.slice none 0 0,.slice none 0 0]) ?_ 1 _ rfl;(with_reducible repeat (first | refine kN_ ?_ _ | refine kD_ ?_ | refine kA_ ?_ _));refine kP_ (cs:=#[.bool false,.slice none 0 0,.slice none 0 0,.slice none 0 0]) ?_ 0 _ rfl;exact kZ_ BK255) Try.underlying29 rfl (by kernel_rfl)) rfl ?_
               exact ⟨_,_,_,by first | rfl | (simp [errW_none,errW_some] <;> rfl) | (simp [*, errW_none,errW_some] <;> rfl),by (with_reducible repeat (first | apply rA_ | apply rN_ | apply rD_));exact Kd.R_mono (Kd.R_far (p:=⟨gb255,3,none⟩) (Kd.R_far (p:=⟨gb255,2,none⟩) (Kd.R_far (p:=⟨gb255,1,none⟩) (Kd.R_far (p:=⟨gb255,0,none⟩) (Kd.R_types HO_265001.out BK255.out (by decide)) (fun _ hk=>hk.2) (.bool false)) (fun _ hk=>hk.2) (.slice Ao98 x265001_12.length co98)) (fun _ hk=>hk.2) (.slice Ao99 x265002_25.length co99)) (fun _ hk=>hk.2) (.slice Ao100 x265003_4.length co100)) (fun _ hk=>hk.1),by (with_reducible repeat (first | apply rA_ | apply rN_ | apply rD_));exact Kd.R_mono (Kd.R_far (p:=⟨gb255,3,none⟩) (Kd.R_far (p:=⟨gb255,2,none⟩) (Kd.R_far (p:=⟨gb255,1,none⟩) (Kd.R_far (p:=⟨gb255,0,none⟩) (Kd.R_types HO_265002.out BK255.out (by decide)) (fun _ hk=>hk.2) (.bool false)) (fun _ hk=>hk.2) (.slice Ao98 x265001_12.length co98)) (fun _ hk=>hk.2) (.slice Ao99 x265002_25.length co99)) (fun _ hk=>hk.2) (.slice Ao100 x265003_4.length co100)) (fun _ hk=>hk.1),by (with_reducible repeat (first | apply rA_ | apply rN_ | apply rD_));exact Kd.R_mono (Kd.R_far (p:=⟨gb255,3,none⟩) (Kd.R_far (p:=⟨gb255,2,none⟩) (Kd.R_far (p:=⟨gb255,1,none⟩) (Kd.R_far (p:=⟨gb255,0,none⟩) (Kd.R_types HO_265003.out BK255.out (by decide)) (fun _ hk=>hk.2) (.bool false)) (fun _ hk=>hk.2) (.slice Ao98 x265001_12.length co98)) (fun _ hk=>hk.2) (.slice Ao99 x265002_25.length co99)) (fun _ hk=>hk.2) (.slice Ao100 x265003_4.length co100)) (fun _ hk=>trivial),by exact bZ_ HB⟩
              ·rw [if_neg c95] at H
               have c95b0 : ((strOfNums t286).toList == (strOfNums l0).toList) = false:=beq_eq_false_iff_ne.mpr c95
               have c95b1 : ((strOfNums t286).toList != (strOfNums l0).toList) = true:=bne_iff_ne.mpr c95
               simp only [Option.some.injEq,Prod.mk.injEq] at H
               obtain ⟨rfl,rfl,rfl,rfl,rfl⟩:=H
               have hnb107:=NB264_255.out
               have hnc107:=NB255_264.out
               have hcz108_0 : wr.cell? ⟨gb264,0,none⟩ = some (.bool false):=(kC_ BK264.out 0).trans rfl
               have hcz108_1 : wr.cell? ⟨gb264,1,none⟩ = some (u265001):=(kC_ BK264.out 1).trans rfl
               have hcz108_2 : wr.cell? ⟨gb264,2,none⟩ = some (u265002):=(kC_ BK264.out 2).trans rfl
               have hcz108_3 : wr.cell? ⟨gb264,3,none⟩ = some (u265003):=(kC_ BK264.out 3).trans rfl
               have hfz108_0:=kF_ BK264.out 0
               have hfz108_1:=kF_ BK264.out 1
               have hfz108_2:=kF_ BK264.out 2
               have hfz108_3:=kF_ BK264.out 3
               obtain ⟨Ao109,co109,eo109⟩:=Kd.R_slice HO_265001.out
               subst eo109
               obtain ⟨Ao110,co110,eo110⟩:=Kd.R_slice HO_265002.out
               subst eo110
               obtain ⟨Ao111,co111,eo111⟩:=Kd.R_slice HO_265003.out
               subst eo111
               go_wp2_with (first | ((with_reducible refine gate_callee (f:=15) rfl ?_);refine goesL_ (some 122) rfl rfl Try.func15 (by kernel_rfl) rfl #[.agg #[.bool false,.slice Ao109 x265001_12.length co109,.slice Ao110 x265002_25.length co110,.slice Ao111 x265003_4.length co111]] rfl (by (try simp only [mA_,mC_,mN_]);first | done | rfl | (simp only [lD_,lT_];rfl)) ?_;(with_reducible refine (impl_PutNode.calls k4 false _ _ x265001_12 _ _ x265002_25 _ _ x265003_4 t286 _ ?side1 ?side2 ?side3 ?side4 ?side5 ?side6 A85.out).mono ?_);(case side1=>repeat (first | exact (Kd.R_reads' HO_265001.out).2.2 | (with_reducible refine cA_ ?_ _) | (with_reducible refine cN_ ?_ _) | (with_reducible refine cD_ ?_)));(case side2=>exact (Kd.R_reads' HO_265001.out).2.1);(case side3=>repeat (first | exact (Kd.R_reads' HO_265002.out).2.2 | (with_reducible refine cA_ ?_ _) | (with_reducible refine cN_ ?_ _) | (with_reducible refine cD_ ?_)));(case side4=>exact (Kd.R_reads' HO_265002.out).2.1);(case side5=>repeat (first | exact (Kd.R_reads' HO_265003.out).2.2 | (with_reducible refine cA_ ?_ _) | (with_reducible refine cN_ ?_ _) | (with_reducible refine cD_ ?_)));(case side6=>exact (Kd.R_reads' HO_265003.out).2.1);rintro e w112 ⟨v287,rfl,ho0,hb⟩;refine ⟨_,rfl,?_⟩;have n0_:=aM_ (Kd.R_below (by exact rZ_ HO_265001) hb);have n1_:=aM_ (Kd.R_below (by exact rZ_ HO_265002) hb);have n2_:=aM_ (Kd.R_below (by exact rZ_ HO_265003) hb);have n3_:=aM_ (Kd.R_lower ho0 (bS_ (by exact bZ_ HB)));have n4_:=aM_ (blk_below (g:=gb255) (o:=.cells #[.bool false,.slice none 0 0,.slice none 0 0,.slice none 0 0] 29 (0,0)) (by exact kZ_ BK255) hb);have n5_:=aM_ (blk_below (g:=gb264) (o:=.cells #[.bool false,.slice Ao109 x265001_12.length co109,.slice Ao110 x265002_25.length co110,.slice Ao111 x265003_4.length co111] 29 (0,0)) (by exact kZ_ BK264) hb);have n6_:=aM_ (bT_ (by exact bZ_ HB) hb);clear HO_265001 HO_265002 HO_265003 BK255 BK264 HB;have HO_265001:=n0_;have HO_265002:=n1_;have HO_265003:=n2_;have HO288:=n3_;have BK255:=n4_;have BK264:=n5_;have HB:=n6_;clear n0_ n1_ n2_ n3_ n4_ n5_ n6_ hb ho0;obtain ⟨Ao113,co113,eo113⟩:=Kd.R_slice HO288.out;subst eo113;have hcv114:=own_string (P:=Try.prog) Try.underlying27 Try.underlying5 Try.underlying9 (Kd.own_of_R HO288.out);have hcv115:=Kd.C_string (P:=Try.prog) (A:=A0) (c:=c0) Try.underlying27 Try.underlying5 Try.underlying9 (Kd.C_below HR0.out HB.out);have hcw295:=fun (n_ : Nat)=>Kd.C_string (P:=Try.prog) (A:=A0) (c:=c0) Try.underlying27 Try.underlying5 Try.underlying9 (cN_ ((Kd.C_below HR0.out HB.out)) n_);have hcz116_0 : w112.cell? ⟨gb255,0,none⟩ = some (.bool false):=(kC_ BK255.out 0).trans rfl;have hcz116_1 : w112.cell? ⟨gb255,1,none⟩ = some (.slice none 0 0):=(kC_ BK255.out 1).trans rfl;have hcz116_2 : w112.cell? ⟨gb255,2,none⟩ = some (.slice none 0 0):=(kC_ BK255.out 2).trans rfl;have hcz116_3 : w112.cell? ⟨gb255,3,none⟩ = some (.slice none 0 0):=(kC_ BK255.out 3).trans rfl;have hfz116_0:=kF_ BK255.out 0;have hfz116_1:=kF_ BK255.out 1;have hfz116_2:=kF_ BK255.out 2;have hfz116_3:=kF_ BK255.out 3))
               refine bodyPost_ret (results_ct rfl _ _ gb255 29 #[.bool false,.slice none 0 0,.slice none 0 0,.slice none 0 0] (0,0) _ rfl (by (with_reducible repeat (first | refine kN_ ?_ _ | refine kD_ ?_ | refine kA_ ?_ _));refine kP_ (cs:=#[.bool false,.slice none 0 0,.slice none 0 0,.slice none 0 0]) ?_ 3 _ rfl;(with_reducible repeat (first | refine kN_ ?_ _ | refine kD_ ?_ | refine kA_ ?_ _));refine kP_ (cs:=#[.bool false,.slice none 0 0,.slice none 0 0,.slice none 0 0]) ?_ 2 _ rfl;(with_reducible repeat (first | refine kN_ ?_ _ | refine kD_ ?_ | refine kA_ ?_ _));refine kP_ (cs:=#[.bool false,.slice none 0 0,.slice none 0 0,.slice none 0 0]) ?_ 1 _ rfl;(with_reducible repeat (first | refine kN_ ?_ _ | refine kD_ ?_ | refine kA_ ?_ _));refine kP_ (cs:=#[.bool false,.slice none 0 0,.slice none 0 0,.slice none 0 0]) ?_ 0 _ rfl;exact kZ_ BK255) Try.underlying29 rfl (by kernel_rfl)) rfl ?_
               exact ⟨_,_,_,by first | rfl | (simp [errW_none,errW_some] <;> rfl) | (simp [*, errW_none,errW_some] <;> rfl),by first | exact Kd.R_nil _ _ _ _ _ | exact Kd.N_nil _ _ _ _ _ | exact Kd.V_nil _ _ _ _ _ | exact Kd.Q_nil _ _ _ _ _ | exact Kd.S_nil _ _ _ _ _,by first | exact Kd.R_nil _ _ _ _ _ | exact Kd.N_nil _ _ _ _ _ | exact Kd.V_nil _ _ _ _ _ | exact Kd.Q_nil _ _ _ _ _ | exact Kd.S_nil _ _ _ _ _,by first | exact Kd.R_nil _ _ _ _ _ | exact Kd.N_nil _ _ _ _ _ | exact Kd.V_nil _ _ _ _ _ | exact Kd.Q_nil _ _ _ _ _ | exact Kd.S_nil _ _ _ _ _,by exact bZ_ HB⟩
          ·replace c42:=Bool.eq_false_iff.mpr c42
           subst c42
           have H1 : ((impl_PutNode.f k4 y263 x265001_12 x265002_25 x265003_4).bind fun t289=>(some (false,([] : List ByteArray),([] : List ByteArray),([] : List Int),false))) = some (r1,r2,r3,r4,r5):=by rw [if_neg (show ¬ (false = true) by decide)] at H;exact H
           clear H
           have H:=H1
           clear H1
           replace H:=oB_ H
           obtain ⟨t289,A1170,H⟩:=H
           replace H : (some (false,([] : List ByteArray),([] : List ByteArray),([] : List Int),false)) = some (r1,r2,r3,r4,r5):=H
           have A117:=aM_ A1170
           clear A1170
           simp only [Option.some.injEq,Prod.mk.injEq] at H
           obtain ⟨rfl,rfl,rfl,rfl,rfl⟩:=H
           have hnb118:=NB264_255.out
           have hnc118:=NB255_264.out
           have hcz119_0 : wr.cell? ⟨gb264,0,none⟩ = some (.bool y263):=(kC_ BK264.out 0).trans rfl
           have hcz119_1 : wr.cell? ⟨gb264,1,none⟩ = some (u265001):=(kC_ BK264.out 1).trans rfl
           have hcz119_2 : wr.cell? ⟨gb264,2,none⟩ = some (u265002):=(kC_ BK264.out 2).trans rfl
           have hcz119_3 : wr.cell? ⟨gb264,3,none⟩ = some (u265003):=(kC_ BK264.out 3).trans rfl
           have hfz119_0:=kF_ BK264.out 0
           have hfz119_1:=kF_ BK264.out 1
           have hfz119_2:=kF_ BK264.out 2
           have hfz119_3:=kF_ BK264.out 3
           obtain ⟨Ao120,co120,eo120⟩:=Kd.R_slice HO_265001.out
           subst eo120
           obtain ⟨Ao121,co121,eo121⟩:=Kd.R_slice HO_265002.out
           subst eo121
           obtain ⟨Ao122,co122,eo122⟩:=Kd.R_slice HO_265003.out
           subst eo122
           go_wp2_with (first | ((with_reducible refine gate_callee (f:=15) rfl ?_);refine goesL_ (some 122) rfl rfl Try.func15 (by kernel_rfl) rfl #[.agg #[.bool y263,.slice Ao120 x265001_12.length co120,.slice Ao121 x265002_25.length co121,.slice Ao122 x265003_4.length co122]] rfl (by (try simp only [mA_,mC_,mN_]);first | done | rfl | (simp only [lD_,lT_];rfl)) ?_;(with_reducible refine (impl_PutNode.calls k4 y263 _ _ x265001_12 _ _ x265002_25 _ _ x265003_4 t289 _ ?side1 ?side2 ?side3 ?side4 ?side5 ?side6 A117.out).mono ?_);(case side1=>repeat (first | exact (Kd.R_reads' HO_265001.out).2.2 | (with_reducible refine cA_ ?_ _) | (with_reducible refine cN_ ?_ _) | (with_reducible refine cD_ ?_)));(case side2=>exact (Kd.R_reads' HO_265001.out).2.1);(case side3=>repeat (first | exact (Kd.R_reads' HO_265002.out).2.2 | (with_reducible refine cA_ ?_ _) | (with_reducible refine cN_ ?_ _) | (with_reducible refine cD_ ?_)));(case side4=>exact (Kd.R_reads' HO_265002.out).2.1);(case side5=>repeat (first | exact (Kd.R_reads' HO_265003.out).2.2 | (with_reducible refine cA_ ?_ _) | (with_reducible refine cN_ ?_ _) | (with_reducible refine cD_ ?_)));(case side6=>exact (Kd.R_reads' HO_265003.out).2.1);rintro e w123 ⟨v290,rfl,ho0,hb⟩;refine ⟨_,rfl,?_⟩;have n0_:=aM_ (Kd.R_below (by exact rZ_ HO_265001) hb);have n1_:=aM_ (Kd.R_below (by exact rZ_ HO_265002) hb);have n2_:=aM_ (Kd.R_below (by exact rZ_ HO_265003) hb);have n3_:=aM_ (Kd.R_lower ho0 (bS_ (by exact bZ_ HB)));have n4_:=aM_ (blk_below (g:=gb255) (o:=.cells #[.bool false,.slice none 0 0,.slice none 0 0,.slice none 0 0] 29 (0,0)) (by exact kZ_ BK255) hb);have n5_:=aM_ (blk_below (g:=gb264) (o:=.cells #[.bool y263,.slice Ao120 x265001_12.length co120,.slice Ao121 x265002_25.length co121,.slice Ao122 x265003_4.length co122] 29 (0,0)) (by exact kZ_ BK264) hb);have n6_:=aM_ (bT_ (by exact bZ_ HB) hb);clear HO_265001 HO_265002 HO_265003 BK255 BK264 HB;have HO_265001:=n0_;have HO_265002:=n1_;have HO_265003:=n2_;have HO291:=n3_;have BK255:=n4_;have BK264:=n5_;have HB:=n6_;clear n0_ n1_ n2_ n3_ n4_ n5_ n6_ hb ho0;have hcz124_0 : w123.cell? ⟨gb255,0,none⟩ = some (.bool false):=(kC_ BK255.out 0).trans rfl;have hcz124_1 : w123.cell? ⟨gb255,1,none⟩ = some (.slice none 0 0):=(kC_ BK255.out 1).trans rfl;have hcz124_2 : w123.cell? ⟨gb255,2,none⟩ = some (.slice none 0 0):=(kC_ BK255.out 2).trans rfl;have hcz124_3 : w123.cell? ⟨gb255,3,none⟩ = some (.slice none 0 0):=(kC_ BK255.out 3).trans rfl;have hfz124_0:=kF_ BK255.out 0;have hfz124_1:=kF_ BK255.out 1;have hfz124_2:=kF_ BK255.out 2;have hfz124_3:=kF_ BK255.out 3))
           refine bodyPost_ret (results_ct rfl _ _ gb255 29 #[.bool false,.slice none 0 0,.slice none 0 0,.slice none 0 0] (0,0) _ rfl (by (with_reducible repeat (first | refine kN_ ?_ _ | refine kD_ ?_ | refine kA_ ?_ _));refine kP_ (cs:=#[.bool false,.slice none 0 0,.slice none 0 0,.slice none 0 0]) ?_ 3 _ rfl;(with_reducible repeat (first | refine kN_ ?_ _ | refine kD_ ?_ | refine kA_ ?_ _));refine kP_ (cs:=#[.bool false,.slice none 0 0,.slice none 0 0,.slice none 0 0]) ?_ 2 _ rfl;(with_reducible repeat (first | refine kN_ ?_ _ | refine kD_ ?_ | refine kA_ ?_ _));refine kP_ (cs:=#[.bool false,.slice none 0 0,.slice none 0 0,.slice none 0 0]) ?_ 1 _ rfl;(with_reducible repeat (first | refine kN_ ?_ _ | refine kD_ ?_ | refine kA_ ?_ _));refine kP_ (cs:=#[.bool false,.slice none 0 0,.slice none 0 0,.slice none 0 0]) ?_ 0 _ rfl;exact kZ_ BK255) Try.underlying29 rfl (by kernel_rfl)) rfl ?_
           exact ⟨_,_,_,by first | rfl | (simp [errW_none,errW_some] <;> rfl) | (simp [*, errW_none,errW_some] <;> rfl),by first | exact Kd.R_nil _ _ _ _ _ | exact Kd.N_nil _ _ _ _ _ | exact Kd.V_nil _ _ _ _ _ | exact Kd.Q_nil _ _ _ _ _ | exact Kd.S_nil _ _ _ _ _,by first | exact Kd.R_nil _ _ _ _ _ | exact Kd.N_nil _ _ _ _ _ | exact Kd.V_nil _ _ _ _ _ | exact Kd.Q_nil _ _ _ _ _ | exact Kd.S_nil _ _ _ _ _,by first | exact Kd.R_nil _ _ _ _ _ | exact Kd.N_nil _ _ _ _ _ | exact Kd.V_nil _ _ _ _ _ | exact Kd.Q_nil _ _ _ _ _ | exact Kd.S_nil _ _ _ _ _,by exact bZ_ HB⟩
end Go.Proofs.Ytllgmgpfdnofmaa.PFnNodes
