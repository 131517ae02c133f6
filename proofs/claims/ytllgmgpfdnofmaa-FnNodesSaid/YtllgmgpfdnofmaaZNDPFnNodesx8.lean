import Derived.Test.YtllgmgpfdnofmaaZNDPFnNodesx0
import Derived.Test.YtllgmgpfdnofmaaZNDPFnNodesx6
import Derived.Test.YtllgmgpfdnofmaaZNDPFnNodesx7
namespace Go.Proofs.Ytllgmgpfdnofmaa.PFnNodes
open Go.RowKit Go.Proofs.YtllgmgpfdnofmaaW.PrintWords Go.Proofs.YtllgmgpfdnofmaaW.PrintLast Go.Proofs.YtllgmgpfdnofmaaW.PrintMore Go.Proofs.Ytllgmgpfdnofmaa.Xtra
attribute [local go_sem] max2_int min2_int max_two min_two max_three min_three max_four min_four str_leq str_gtr str_geq setCell_drewN cell_set2 cell_set3   -- for this text's walks alone
set_option linter.unusedVariables false
set_option linter.unusedSimpArgs false
mutual
def spec_GetNode.j0 : Nat → List Int → Int → Int → List Int → Int → Bool → Option (Bool × List ByteArray × List ByteArray × List Int × Bool)
 | 0,_,_,_,_,_,_=>none
 | k + 1,x0,x5,x6,x221000,x221001,x221002=>spec_GetNode.l0 k x0 x6 0 x221000 x221001 x221002 ((x5 == 1)) ([] : List ByteArray)
def spec_GetNode.j2 : Nat → List Int → Int → List Int → Int → Bool → Bool → List ByteArray → Option (Bool × List ByteArray × List ByteArray × List Int × Bool)
 | 0,_,_,_,_,_,_,_=>none
 | k + 1,x0,x6,x221000,x221001,x221002,x229000,x229001=>spec_GetNode.l1 k x0 x6 0 x221000 x221001 x221002 x229000 x229001 ([] : List ByteArray)
def spec_GetNode.j4 : Nat → List Int → Int → List Int → Int → Bool → Bool → List ByteArray → List ByteArray → Option (Bool × List ByteArray × List ByteArray × List Int × Bool)
 | 0,_,_,_,_,_,_,_,_=>none
 | k + 1,x0,x6,x221000,x221001,x221002,x229000,x229001,x229002=>spec_GetNode.l2 k x0 x6 0 x221000 x221001 x221002 x229000 x229001 x229002 ([] : List Int)
def spec_GetNode.l2 : Nat → List Int → Int → Int → List Int → Int → Bool → Bool → List ByteArray → List ByteArray → List Int → Option (Bool × List ByteArray × List ByteArray × List Int × Bool)
 | 0,_,_,_,_,_,_,_,_,_,_=>none
 | k + 1,x0,x6,x12,x221000,x221001,x221002,x229000,x229001,x229002,x229003=>if x12 ≤ x6 then (if x221002 = true then (some (false,([] : List ByteArray),([] : List ByteArray),([] : List Int),false)) else (if x229000 = true then (if x221001 = (x0.length : Int) then ((spec_NodeOk.f k x229000 x229001 x229002 x229003).bind fun t241=>(if t241 = true then (some (x229000,x229001,x229002,x229003,true)) else (some (false,([] : List ByteArray),([] : List ByteArray),([] : List Int),false)))) else (some (false,([] : List ByteArray),([] : List ByteArray),([] : List Int),false))) else ((spec_l14Num.f k x221000 x221001 x221002).bind fun bt242=>(if x229003.length < 17592186044416 then (spec_GetNode.l2 k x0 x6 (wrap64 (x12 + 1)) x221000 bt242.2.1 bt242.2.2 x229000 x229001 x229002 (x229003 ++ [bt242.1])) else (none))))) else (if x221002 = true then (some (false,([] : List ByteArray),([] : List ByteArray),([] : List Int),false)) else (if x221001 = (x0.length : Int) then ((spec_NodeOk.f k x229000 x229001 x229002 x229003).bind fun t248=>(if t248 = true then (some (x229000,x229001,x229002,x229003,true)) else (some (false,([] : List ByteArray),([] : List ByteArray),([] : List Int),false)))) else (some (false,([] : List ByteArray),([] : List ByteArray),([] : List Int),false))))
def spec_GetNode.l1 : Nat → List Int → Int → Int → List Int → Int → Bool → Bool → List ByteArray → List ByteArray → Option (Bool × List ByteArray × List ByteArray × List Int × Bool)
 | 0,_,_,_,_,_,_,_,_,_=>none
 | k + 1,x0,x6,x10,x221000,x221001,x221002,x229000,x229001,x229002=>if x10 < x6 then (if x221002 = true then (spec_GetNode.j4 k x0 x6 x221000 x221001 x221002 x229000 x229001 x229002) else (if x229000 = true then ((spec_l14Text.f k x221000 x221001 x221002).bind fun bt235=>(if x229002.length < 8796093022208 then (spec_GetNode.l1 k x0 x6 (wrap64 (x10 + 1)) x221000 bt235.2.1 bt235.2.2 x229000 x229001 (x229002 ++ [bt235.1])) else (none))) else (spec_GetNode.j4 k x0 x6 x221000 x221001 x221002 x229000 x229001 x229002))) else (spec_GetNode.j4 k x0 x6 x221000 x221001 x221002 x229000 x229001 x229002)
def spec_GetNode.l0 : Nat → List Int → Int → Int → List Int → Int → Bool → Bool → List ByteArray → Option (Bool × List ByteArray × List ByteArray × List Int × Bool)
 | 0,_,_,_,_,_,_,_,_=>none
 | k + 1,x0,x6,x8,x221000,x221001,x221002,x229000,x229001=>if x8 < x6 then (if x221002 = true then (spec_GetNode.j2 k x0 x6 x221000 x221001 x221002 x229000 x229001) else ((spec_l14Text.f k x221000 x221001 x221002).bind fun bt229=>(if x229001.length < 8796093022208 then (spec_GetNode.l0 k x0 x6 (wrap64 (x8 + 1)) x221000 bt229.2.1 bt229.2.2 x229000 (x229001 ++ [bt229.1])) else (none)))) else (spec_GetNode.j2 k x0 x6 x221000 x221001 x221002 x229000 x229001)
end
def spec_GetNode.f (k : Nat) (l0 : List Int) : Option (Bool × List ByteArray × List ByteArray × List Int × Bool):=(spec_l14Num.f k l0 0 false).bind fun bt221=>((spec_l14Num.f k l0 bt221.2.1 bt221.2.2).bind fun bt224=>(if bt224.2.2 = true then (spec_GetNode.j0 k l0 bt221.1 bt224.1 l0 bt224.2.1 true) else (if bt221.1 > 1 then (spec_GetNode.j0 k l0 bt221.1 bt224.1 l0 bt224.2.1 true) else (spec_GetNode.j0 k l0 bt221.1 bt224.1 l0 bt224.2.1 (decide (bt224.1 > (l0.length : Int)))))))
theorem spec_GetNode.mono_l : ∀ k,(∀ y0 y1 y2 y3 y4 y5,LeO (spec_GetNode.j0 k y0 y1 y2 y3 y4 y5) (spec_GetNode.j0 (k + 1) y0 y1 y2 y3 y4 y5)) ∧ (∀ y0 y1 y2 y3 y4 y5 y6,LeO (spec_GetNode.j2 k y0 y1 y2 y3 y4 y5 y6) (spec_GetNode.j2 (k + 1) y0 y1 y2 y3 y4 y5 y6)) ∧ (∀ y0 y1 y2 y3 y4 y5 y6 y7,LeO (spec_GetNode.j4 k y0 y1 y2 y3 y4 y5 y6 y7) (spec_GetNode.j4 (k + 1) y0 y1 y2 y3 y4 y5 y6 y7)) ∧ (∀ y0 y1 y2 y3 y4 y5 y6 y7 y8 y9,LeO (spec_GetNode.l2 k y0 y1 y2 y3 y4 y5 y6 y7 y8 y9) (spec_GetNode.l2 (k + 1) y0 y1 y2 y3 y4 y5 y6 y7 y8 y9)) ∧ (∀ y0 y1 y2 y3 y4 y5 y6 y7 y8,LeO (spec_GetNode.l1 k y0 y1 y2 y3 y4 y5 y6 y7 y8) (spec_GetNode.l1 (k + 1) y0 y1 y2 y3 y4 y5 y6 y7 y8)) ∧ (∀ y0 y1 y2 y3 y4 y5 y6 y7,LeO (spec_GetNode.l0 k y0 y1 y2 y3 y4 y5 y6 y7) (spec_GetNode.l0 (k + 1) y0 y1 y2 y3 y4 y5 y6 y7))
 | 0=>⟨fun _ _ _ _ _ _ r h=>by simp [spec_GetNode.j0] at h,fun _ _ _ _ _ _ _ r h=>by simp [spec_GetNode.j2] at h,fun _ _ _ _ _ _ _ _ r h=>by simp [spec_GetNode.j4] at h,fun _ _ _ _ _ _ _ _ _ _ r h=>by simp [spec_GetNode.l2] at h,fun _ _ _ _ _ _ _ _ _ r h=>by simp [spec_GetNode.l1] at h,fun _ _ _ _ _ _ _ _ r h=>by simp [spec_GetNode.l0] at h⟩
 | k + 1=>by
  obtain ⟨ih0,ih1,ih2,ih3,ih4,ih5⟩:=spec_GetNode.mono_l k
  refine ⟨?_,?_,?_,?_,?_,?_⟩
  ·intro y0 y1 y2 y3 y4 y5
   unfold spec_GetNode.j0
   repeat' first
   | (with_reducible exact ih0 _ _ _ _ _ _)
   | (with_reducible exact ih1 _ _ _ _ _ _ _)
   | (with_reducible exact ih2 _ _ _ _ _ _ _ _)
   | (with_reducible exact ih3 _ _ _ _ _ _ _ _ _ _)
   | (with_reducible exact ih4 _ _ _ _ _ _ _ _ _)
   | (with_reducible exact ih5 _ _ _ _ _ _ _ _)
   | (with_reducible exact spec_NodeOk.mono _ _ _ _ _)
   | (with_reducible exact spec_l14Num.mono _ _ _ _)
   | (with_reducible exact spec_l14Text.mono _ _ _ _)
   | (with_reducible exact LeO.refl _)
   | (with_reducible exact LeO.none _)
   | (with_reducible refine LeO.ite ?_ ?_)
   | (with_reducible refine LeO.bind ?_ (fun _=>?_))
   | exact ih0 _ _ _ _ _ _
   | exact ih1 _ _ _ _ _ _ _
   | exact ih2 _ _ _ _ _ _ _ _
   | exact ih3 _ _ _ _ _ _ _ _ _ _
   | exact ih4 _ _ _ _ _ _ _ _ _
   | exact ih5 _ _ _ _ _ _ _ _
   | exact spec_NodeOk.mono _ _ _ _ _
   | exact spec_l14Num.mono _ _ _ _
   | exact spec_l14Text.mono _ _ _ _
   | exact LeO.none _
   | refine LeO.ite ?_ ?_
   | refine LeO.bind ?_ (fun _=>?_)
  ·intro y0 y1 y2 y3 y4 y5 y6
   unfold spec_GetNode.j2
   repeat' first
   | (with_reducible exact ih0 _ _ _ _ _ _)
   | (with_reducible exact ih1 _ _ _ _ _ _ _)
   | (with_reducible exact ih2 _ _ _ _ _ _ _ _)
   | (with_reducible exact ih3 _ _ _ _ _ _ _ _ _ _)
   | (with_reducible exact ih4 _ _ _ _ _ _ _ _ _)
   | (with_reducible exact ih5 _ _ _ _ _ _ _ _)
   | (with_reducible exact spec_NodeOk.mono _ _ _ _ _)
   | (with_reducible exact spec_l14Num.mono _ _ _ _)
   | (with_reducible exact spec_l14Text.mono _ _ _ _)
   | (with_reducible exact LeO.refl _)
   | (with_reducible exact LeO.none _)
   | (with_reducible refine LeO.ite ?_ ?_)
   | (with_reducible refine LeO.bind ?_ (fun _=>?_))
   | exact ih0 _ _ _ _ _ _
   | exact ih1 _ _ _ _ _ _ _
   | exact ih2 _ _ _ _ _ _ _ _
   | exact ih3 _ _ _ _ _ _ _ _ _ _
   | exact ih4 _ _ _ _ _ _ _ _ _
   | exact ih5 _ _ _ _ _ _ _ _
   | exact spec_NodeOk.mono _ _ _ _ _
   | exact spec_l14Num.mono _ _ _ _
   | exact spec_l14Text.mono _ _ _ _
   | exact LeO.none _
   | refine LeO.ite ?_ ?_
   | refine LeO.bind ?_ (fun _=>?_)
  ·intro y0 y1 y2 y3 y4 y5 y6 y7
   unfold spec_GetNode.j4
   repeat' first
   | (with_reducible exact ih0 _ _ _ _ _ _)
   | (with_reducible exact ih1 _ _ _ _ _ _ _)
   | (with_reducible exact ih2 _ _ _ _ _ _ _ _)
   | (with_reducible exact ih3 _ _ _ _ _ _ _ _ _ _)
   | (with_reducible exact ih4 _ _ _ _ _ _ _ _ _)
   | (with_reducible exact ih5 _ _ _ _ _ _ _ _)
   | (with_reducible exact spec_NodeOk.mono _ _ _ _ _)
   | (with_reducible exact spec_l14Num.mono _ _ _ _)
   | (with_reducible exact spec_l14Text.mono _ _ _ _)
   | (with_reducible exact LeO.refl _)
   | (with_reducible exact LeO.none _)
   | (with_reducible refine LeO.ite ?_ ?_)
   | (with_reducible refine LeO.bind ?_ (fun _=>?_))
   | exact ih0 _ _ _ _ _ _
   | exact ih1 _ _ _ _ _ _ _
   | exact ih2 _ _ _ _ _ _ _ _
   | exact ih3 _ _ _ _ _ _ _ _ _ _
   | exact ih4 _ _ _ _ _ _ _ _ _
   | exact ih5 _ _ _ _ _ _ _ _
   | exact spec_NodeOk.mono _ _ _ _ _
   | exact spec_l14Num.mono _ _ _ _
   | exact spec_l14Text.mono _ _ _ _
   | exact LeO.none _
   | refine LeO.ite ?_ ?_
   | refine LeO.bind ?_ (fun _=>?_)
  ·intro y0 y1 y2 y3 y4 y5 y6 y7 y8 y9
   unfold spec_GetNode.l2
   repeat' first
   | (with_reducible exact ih0 _ _ _ _ _ _)
   | (with_reducible exact ih1 _ _ _ _ _ _ _)
   | (with_reducible exact ih2 _ _ _ _ _ _ _ _)
   | (with_reducible exact ih3 _ _ _ _ _ _ _ _ _ _)
   | (with_reducible exact ih4 _ _ _ _ _ _ _ _ _)
   | (with_reducible exact ih5 _ _ _ _ _ _ _ _)
   | (with_reducible exact spec_NodeOk.mono _ _ _ _ _)
   | (with_reducible exact spec_l14Num.mono _ _ _ _)
   | (with_reducible exact spec_l14Text.mono _ _ _ _)
   | (with_reducible exact LeO.refl _)
   | (with_reducible exact LeO.none _)
   | (with_reducible refine LeO.ite ?_ ?_)
   | (with_reducible refine LeO.bind ?_ (fun _=>?_))
   | exact ih0 _ _ _ _ _ _
   | exact ih1 _ _ _ _ _ _ _
   | exact ih2 _ _ _ _ _ _ _ _
   | exact ih3 _ _ _ _ _ _ _ _ _ _
   | exact ih4 _ _ _ _ _ _ _ _ _
   | exact ih5 _ _ _ _ _ _ _ _
   | exact spec_NodeOk.mono _ _ _ _ _
   | exact spec_l14Num.mono _ _ _ _
   | exact spec_l14Text.mono _ _ _ _
   | exact LeO.none _
   | refine LeO.ite ?_ ?_
   | refine LeO.bind ?_ (fun _=>?_)
  ·intro y0 y1 y2 y3 y4 y5 y6 y7 y8
   unfold spec_GetNode.l1
   repeat' first
   | (with_reducible exact ih0 _ _ _ _ _ _)
   | (with_reducible exact ih1 _ _ _ _ _ _ _)
   | (with_reducible exact ih2 _ _ _ _ _ _ _ _)
   | (with_reducible exact ih3 _ _ _ _ _ _ _ _ _ _)
   | (with_reducible exact ih4 _ _ _ _ _ _ _ _ _)
   | (with_reducible exact ih5 _ _ _ _ _ _ _ _)
   | (with_reducible exact spec_NodeOk.mono _ _ _ _ _)
   | (with_reducible exact spec_l14Num.mono _ _ _ _)
   | (with_reducible exact spec_l14Text.mono _ _ _ _)
   | (with_reducible exact LeO.refl _)
   | (with_reducible exact LeO.none _)
   | (with_reducible refine LeO.ite ?_ ?_)
   | (with_reducible refine LeO.bind ?_ (fun _=>?_))
   | exact ih0 _ _ _ _ _ _
   | exact ih1 _ _ _ _ _ _ _
   | exact ih2 _ _ _ _ _ _ _ _
   | exact ih3 _ _ _ _ _ _ _ _ _ _
   | exact ih4 _ _ _ _ _ _ _ _ _
   | exact ih5 _ _ _ _ _ _ _ _
   | exact spec_NodeOk.mono _ _ _ _ _
   | exact spec_l14Num.mono _ _ _ _
   | exact spec_l14Text.mono _ _ _ _
   | exact LeO.none _
   | refine LeO.ite ?_ ?_
   | refine LeO.bind ?_ (fun _=>?_)
  ·intro y0 y1 y2 y3 y4 y5 y6 y7
   unfold spec_GetNode.l0
   repeat' first
   | (with_reducible exact ih0 _ _ _ _ _ _)
   | (with_reducible exact ih1 _ _ _ _ _ _ _)
   | (with_reducible exact ih2 _ _ _ _ _ _ _ _)
   | (with_reducible exact ih3 _ _ _ _ _ _ _ _ _ _)
   | (with_reducible exact ih4 _ _ _ _ _ _ _ _ _)
   | (with_reducible exact ih5 _ _ _ _ _ _ _ _)
   | (with_reducible exact spec_NodeOk.mono _ _ _ _ _)
   | (with_reducible exact spec_l14Num.mono _ _ _ _)
   | (with_reducible exact spec_l14Text.mono _ _ _ _)
   | (with_reducible exact LeO.refl _)
   | (with_reducible exact LeO.none _)
   | (with_reducible refine LeO.ite ?_ ?_)
   | (with_reducible refine LeO.bind ?_ (fun _=>?_))
   | exact ih0 _ _ _ _ _ _
   | exact ih1 _ _ _ _ _ _ _
   | exact ih2 _ _ _ _ _ _ _ _
   | exact ih3 _ _ _ _ _ _ _ _ _ _
   | exact ih4 _ _ _ _ _ _ _ _ _
   | exact ih5 _ _ _ _ _ _ _ _
   | exact spec_NodeOk.mono _ _ _ _ _
   | exact spec_l14Num.mono _ _ _ _
   | exact spec_l14Text.mono _ _ _ _
   | exact LeO.none _
   | refine LeO.ite ?_ ?_
   | refine LeO.bind ?_ (fun _=>?_)
theorem spec_GetNode.mono : ∀ a0 k,LeO (spec_GetNode.f k a0) (spec_GetNode.f (k + 1) a0):=by
 intro a0 k
 obtain ⟨ih0,ih1,ih2,ih3,ih4,ih5⟩:=spec_GetNode.mono_l k
 unfold spec_GetNode.f
 repeat' first
   | (with_reducible exact ih0 _ _ _ _ _ _)
   | (with_reducible exact ih1 _ _ _ _ _ _ _)
   | (with_reducible exact ih2 _ _ _ _ _ _ _ _)
   | (with_reducible exact ih3 _ _ _ _ _ _ _ _ _ _)
   | (with_reducible exact ih4 _ _ _ _ _ _ _ _ _)
   | (with_reducible exact ih5 _ _ _ _ _ _ _ _)
   | (with_reducible exact spec_NodeOk.mono _ _ _ _ _)
   | (with_reducible exact spec_l14Num.mono _ _ _ _)
   | (with_reducible exact spec_l14Text.mono _ _ _ _)
   | (with_reducible exact LeO.refl _)
   | (with_reducible exact LeO.none _)
   | (with_reducible refine LeO.ite ?_ ?_)
   | (with_reducible refine LeO.bind ?_ (fun _=>?_))
   | exact ih0 _ _ _ _ _ _
   | exact ih1 _ _ _ _ _ _ _
   | exact ih2 _ _ _ _ _ _ _ _
   | exact ih3 _ _ _ _ _ _ _ _ _ _
   | exact ih4 _ _ _ _ _ _ _ _ _
   | exact ih5 _ _ _ _ _ _ _ _
   | exact spec_NodeOk.mono _ _ _ _ _
   | exact spec_l14Num.mono _ _ _ _
   | exact spec_l14Text.mono _ _ _ _
   | exact LeO.none _
   | refine LeO.ite ?_ ?_
   | refine LeO.bind ?_ (fun _=>?_)
set_option maxHeartbeats 8000000 in
set_option maxRecDepth 100000 in
theorem spec_GetNode.calls (k : Nat) (A0 : Option Addr) (c0 : Nat) (l0 : List Int) (r1 : Bool) (r2 : List ByteArray) (r3 : List ByteArray) (r4 : List Int) (r5 : Bool) (w : World) (hr0 : Kd.C (Kd.int .u8) w A0 l0.length l0) (hc0 : l0.length ≤ c0) (h : spec_GetNode.f k l0 = some (r1,r2,r3,r4,r5)) :
  Calls Try.prog 21 #[.slice A0 l0.length c0] w fun e w'=>∃ v1_ v2_ v3_ : Value,e = .returned (.tuple #[.agg #[.bool r1,v1_,v2_,v3_],.bool r5]) ∧ Kd.R Kd.string 9 w' w.heap.size (fun k_=>some k_ ≠ (v2_ : Value).ownBlock) v1_ r2 ∧ Kd.R Kd.string 9 w' w.heap.size (fun k_=>some k_ ≠ (v1_ : Value).ownBlock) v2_ r3 ∧ Kd.R (Kd.int .i64) 3 w' w.heap.size (fun _=>True) v3_ r4 ∧ Below w.heap.size w w':=by
 have hu29:=Try.underlying29
 have hu98:=Try.underlying98
 have HR0:=aM_ hr0
 have HC0:=aM_ hc0
 clear hr0 hc0
 have HB:=aM_ (Below.refl w.heap.size w)
 have H : ((spec_l14Num.f k l0 0 false).bind fun bt221=>((spec_l14Num.f k l0 bt221.2.1 bt221.2.2).bind fun bt224=>(if bt224.2.2 = true then (spec_GetNode.j0 k l0 bt221.1 bt224.1 l0 bt224.2.1 true) else (if bt221.1 > 1 then (spec_GetNode.j0 k l0 bt221.1 bt224.1 l0 bt224.2.1 true) else (spec_GetNode.j0 k l0 bt221.1 bt224.1 l0 bt224.2.1 (decide (bt224.1 > (l0.length : Int)))))))) = some (r1,r2,r3,r4,r5):=h
 clear h
 replace H:=oB_ H
 obtain ⟨⟨t221,t222,t223⟩,A20,H⟩:=H
 replace H : ((spec_l14Num.f k l0 t222 t223).bind fun bt224=>(if bt224.2.2 = true then (spec_GetNode.j0 k l0 t221 bt224.1 l0 bt224.2.1 true) else (if t221 > 1 then (spec_GetNode.j0 k l0 t221 bt224.1 l0 bt224.2.1 true) else (spec_GetNode.j0 k l0 t221 bt224.1 l0 bt224.2.1 (decide (bt224.1 > (l0.length : Int))))))) = some (r1,r2,r3,r4,r5):=H
 have A2:=aM_ A20
 clear A20
 replace H:=oB_ H
 obtain ⟨⟨t224,t225,t226⟩,A30,H⟩:=H
 replace H : (if t226 = true then (spec_GetNode.j0 k l0 t221 t224 l0 t225 true) else (if t221 > 1 then (spec_GetNode.j0 k l0 t221 t224 l0 t225 true) else (spec_GetNode.j0 k l0 t221 t224 l0 t225 (decide (t224 > (l0.length : Int)))))) = some (r1,r2,r3,r4,r5):=H
 have A3:=aM_ A30
 clear A30
 have HC4:=aM_ H
 clear H
 go_enter Try.func21,Try.ntmps21
 go_upto_region 4 with (first | ((with_reducible refine gate_dst (N:=2) rfl ?_);(try (refine gate_guard (by rfl) ?_;dsimp only));refine box_event ?hg (N:=2) ?hd (cs:=#[.bool false,.slice none 0 0,.slice none 0 0,.slice none 0 0]) (t:=29) ?hr ?_;(case hd=>rfl);(case hg=>rfl);(case hr=>first | (go_simp;done) | (go_simp;rfl));intro gb219 hg w5 hbox hb;have n0_:=aM_ (bT_ (by exact bZ_ HB) hb);have n1_:=aM_ (hbox);have n2_:=aM_ ((by rw [hg];exact (bS_ (by exact bZ_ HB)) : w.heap.size ≤ gb219));have n3_:=aM_ ((by rw [hg];exact (bS_ (by exact bZ_ HB)) : w.heap.size ≤ gb219));clear HB;have HB:=n0_;have BK219:=n1_;have GW219:=n2_;have GE219:=n3_;clear n0_ n1_ n2_ n3_ hb hbox hg) | ((with_reducible refine gate_dst (N:=16) rfl ?_);(try (refine gate_guard (by rfl) ?_;dsimp only));refine box_event ?hg (N:=16) ?hd (cs:=#[.slice A0 l0.length c0,.int .i64 0,.bool false]) (t:=98) ?hr ?_;(case hd=>rfl);(case hg=>rfl);(case hr=>first | (go_simp;done) | (go_simp;rfl));intro gb220 hg w6 hbox hb;have n0_:=aM_ (blk_below (g:=gb219) (o:=.cells #[.bool false,.slice none 0 0,.slice none 0 0,.slice none 0 0] 29 (0,0)) (by exact kZ_ BK219) hb);have n1_:=aM_ (bT_ (by exact bZ_ HB) hb);have n2_:=aM_ (hbox);have n3_:=aM_ ((by rw [hg];exact (bS_ (by exact bZ_ HB)) : w.heap.size ≤ gb220));have n4_:=aM_ ((by rw [hg];exact (bS_ (by exact bZ_ HB)) : w.heap.size ≤ gb220));have n5_:=aM_ ((by rw [hg];exact Nat.ne_of_lt (blk_lt (g:=gb219) (o:=.cells #[.bool false,.slice none 0 0,.slice none 0 0,.slice none 0 0] 29 (0,0)) (by exact kZ_ BK219)) : gb219 ≠ gb220));have n6_:=aM_ ((by rw [hg];exact Nat.ne_of_gt (blk_lt (g:=gb219) (o:=.cells #[.bool false,.slice none 0 0,.slice none 0 0,.slice none 0 0] 29 (0,0)) (by exact kZ_ BK219)) : gb220 ≠ gb219));clear BK219 HB;have BK219:=n0_;have HB:=n1_;have BK220:=n2_;have GW220:=n3_;have GE220:=n4_;have NB219_220:=n5_;have NB220_219:=n6_;clear n0_ n1_ n2_ n3_ n4_ n5_ n6_ hb hbox hg;have HI220:=aM_ (show J98 w _ gb220 l0 0 false from ⟨_,_,BK220.out,GE220.out,HR0.out,HC0.out⟩);clear BK220) | ((with_reducible refine gate_callee (f:=76) rfl ?_);refine goesL_ (some 18) rfl rfl Try.func76 (by kernel_rfl) rfl #[.pointer (some ⟨gb220,0,none⟩)] rfl (by (try simp only [mA_,mC_,mN_]);first | done | rfl | (simp only [lD_,lT_];rfl)) ?_;(with_reducible refine (spec_l14Num.calls k gb220 l0 0 false t221 t222 t223 w _ ?side1 ?side2 A2.out).mono ?_);(case side1=>repeat first | exact J98.z HI220 | apply J98.set_1 | apply J98.set_2 | refine J98.y ?_);(case side2=>have e0_:=aM_ (J98.ge HI220.out);exact bZ_ HB);rintro e w7 ⟨rfl,hi,hb,hk⟩;refine ⟨_,rfl,?_⟩;have n0_:=aM_ (KeepBut.blk hk (g':=gb219) (o:=.cells #[.bool false,.slice none 0 0,.slice none 0 0,.slice none 0 0] 29 (0,0)) (by exact kZ_ BK219) NB219_220.out (by simp));have n1_:=aM_ (hb);have n2_:=aM_ (hi);clear BK219 HB HI220;have BK219:=n0_;have HB:=n1_;have HI220:=n2_;clear n0_ n1_ n2_ hb hk hi) | ((with_reducible refine gate_callee (f:=76) rfl ?_);refine goesL_ (some 20) rfl rfl Try.func76 (by kernel_rfl) rfl #[.pointer (some ⟨gb220,0,none⟩)] rfl (by (try simp only [mA_,mC_,mN_]);first | done | rfl | (simp only [lD_,lT_];rfl)) ?_;(with_reducible refine (spec_l14Num.calls k gb220 l0 t222 t223 t224 t225 t226 w _ ?side1 ?side2 A3.out).mono ?_);(case side1=>repeat first | exact J98.z HI220 | apply J98.set_1 | apply J98.set_2 | refine J98.y ?_);(case side2=>have e0_:=aM_ (J98.ge HI220.out);exact bZ_ HB);rintro e w8 ⟨rfl,hi,hb,hk⟩;refine ⟨_,rfl,?_⟩;have n0_:=aM_ (KeepBut.blk hk (g':=gb219) (o:=.cells #[.bool false,.slice none 0 0,.slice none 0 0,.slice none 0 0] 29 (0,0)) (by exact kZ_ BK219) NB219_220.out (by simp));have n1_:=aM_ (hb);have n2_:=aM_ (hi);clear BK219 HB HI220;have BK219:=n0_;have HB:=n1_;have HI220:=n2_;clear n0_ n1_ n2_ hb hk hi))
 (try simp only [Act.put,sI_,sZ_,sS_])
 go_cut [] (fun wc=>∃ (kq : Nat) (x221002_3 : Bool),Aside0 (spec_GetNode.j0 kq l0 t221 t224 l0 t225 x221002_3 = some (r1,r2,r3,r4,r5)) ∧ Aside0 (kq ≤ k) ∧ Aside0 (wc.heap[gb219]? = some (.cells #[.bool false,(.slice none 0 0),(.slice none 0 0),(.slice none 0 0)] 29 (0,0))) ∧ Aside0 (J98 w wc gb220 l0 t225 x221002_3) ∧ Aside0 (Below w.heap.size w wc))
 case first =>
  have H:=HC4.out
  clear HC4
  by_cases c9 : t226 = true
  ·subst c9
   have H1 : (spec_GetNode.j0 k l0 t221 t224 l0 t225 true) = some (r1,r2,r3,r4,r5):=by rw [if_pos rfl] at H;exact H
   clear H
   have H:=H1
   clear H1
   have H':=aM_ H
   clear H
   obtain ⟨ASz10_0,cSz10_0,HGz10,hgz10,HSz10_0,HLnz10_0⟩:=HI220.out
   have hcz10_0:=cellS98_0 HGz10
   have hcz10_1:=cellS98_1 HGz10
   have hcz10_2:=cellS98_2 HGz10
   have hfz10_1:=kF_ HGz10 1
   have hfz10_2:=kF_ HGz10 2
   clear HGz10 hgz10
   go_wp2
   (first | go_meet | (refine Met.intro ?_;go_step;(repeat apply Exists.intro);refine ⟨?rel,?eq⟩;(case eq=>(try simp only [c23b0]);(try simp only [c4b0]);(try simp only [c4b0]);rfl)))
   case rel=>exact ⟨_,(true),H', ⟨by first | omega | exact Nat.le_refl _⟩,⟨by exact kW_ BK219⟩,⟨by repeat first | exact J98.z HI220 | apply J98.set_1 | apply J98.set_2 | refine J98.y ?_⟩,⟨by have e0_:=aM_ (J98.ge HI220.out);exact bZ_ HB⟩⟩
  ·replace c9:=Bool.eq_false_iff.mpr c9
   subst c9
   have H1 : (if t221 > 1 then (spec_GetNode.j0 k l0 t221 t224 l0 t225 true) else (spec_GetNode.j0 k l0 t221 t224 l0 t225 (decide (t224 > (l0.length : Int))))) = some (r1,r2,r3,r4,r5):=by rw [if_neg (show ¬ (false = true) by decide)] at H;exact H
   clear H
   have H:=H1
   clear H1
   by_cases c11 : t221 > 1
   ·rw [if_pos c11] at H
    have c11b0 : decide (1 < t221) = true:=decide_eq_true c11
    clear c11
    (first | rw [c11b0] | (simp only [i64_w,i32_w];rw [c11b0]) | skip)
    have H':=aM_ H
    clear H
    obtain ⟨ASz12_0,cSz12_0,HGz12,hgz12,HSz12_0,HLnz12_0⟩:=HI220.out
    have hcz12_0:=cellS98_0 HGz12
    have hcz12_1:=cellS98_1 HGz12
    have hcz12_2:=cellS98_2 HGz12
    have hfz12_1:=kF_ HGz12 1
    have hfz12_2:=kF_ HGz12 2
    clear HGz12 hgz12
    go_wp2
    (first | go_meet | (refine Met.intro ?_;go_step;(repeat apply Exists.intro);refine ⟨?rel,?eq⟩;(case eq=>(try simp only [c4b0]);(try simp only [c4b0]);(try simp only [c11b0]);rfl)))
    case rel=>exact ⟨_,(true),H', ⟨by first | omega | exact Nat.le_refl _⟩,⟨by exact kW_ BK219⟩,⟨by repeat first | exact J98.z HI220 | apply J98.set_1 | apply J98.set_2 | refine J98.y ?_⟩,⟨by have e0_:=aM_ (J98.ge HI220.out);exact bZ_ HB⟩⟩
   ·rw [if_neg c11] at H
    have c11b0 : decide (1 < t221) = false:=decide_eq_false c11
    clear c11
    (first | rw [c11b0] | (simp only [i64_w,i32_w];rw [c11b0]) | skip)
    have H':=aM_ H
    clear H
    obtain ⟨ASz13_0,cSz13_0,HGz13,hgz13,HSz13_0,HLnz13_0⟩:=HI220.out
    have hcz13_0:=cellS98_0 HGz13
    have hcz13_1:=cellS98_1 HGz13
    have hcz13_2:=cellS98_2 HGz13
    have hfz13_1:=kF_ HGz13 1
    have hfz13_2:=kF_ HGz13 2
    clear HGz13 hgz13
    go_wp2
    (first | go_meet | (refine Met.intro ?_;go_step;(repeat apply Exists.intro);refine ⟨?rel,?eq⟩;(case eq=>(try simp only [c4b0]);(try simp only [c11b0]);(try simp only [c11b0]);rfl)))
    case rel=>exact ⟨_,(decide (t224 > (l0.length : Int))),H', ⟨by first | omega | exact Nat.le_refl _⟩,⟨by exact kW_ BK219⟩,⟨by repeat first | exact J98.z HI220 | apply J98.set_1 | apply J98.set_2 | refine J98.y ?_⟩,⟨by have e0_:=aM_ (J98.ge HI220.out);exact bZ_ HB⟩⟩
 case rest =>
  clear HC4
  obtain ⟨kq,x221002_3,HA,HJ3,BK219,HI220,HB⟩:=hcut
  cases kq with
  | zero=>exact absurd HA.out (by simp [spec_GetNode.j0])
  | succ kj3 =>
   have H:=HA.out
   clear HA
   simp only [spec_GetNode.j0] at H
   obtain ⟨y227,hy227⟩ : ∃ y_ : Bool,y_ = ((t221 == 1)):=⟨_,rfl⟩
   replace H : (spec_GetNode.l0 kj3 l0 t224 0 l0 t225 x221002_3 y227 ([] : List ByteArray)) = some (r1,r2,r3,r4,r5):=by first | (rw [hy227];with_reducible exact H) | (have H2_:=(Option.bind_some _ _).symm.trans H;rw [hy227];with_reducible exact H2_) | (have H2_:=(Option.bind_some _ _).symm.trans H;with_reducible exact H2_) | with_reducible exact H | (rw [hy227];exact H) | exact H
   have Ny227:=aM_ hy227
   clear hy227
   have hqy227:=Ny227.out.symm
   have HC14:=aM_ H
   clear H
   go_upto_block 0 with (first | ((with_reducible refine gate_dst (N:=7) rfl ?_);(try (refine gate_guard (by rfl) ?_;dsimp only));refine box_event ?hg (N:=7) ?hd (cs:=#[.bool false,.slice none 0 0,.slice none 0 0,.slice none 0 0]) (t:=29) ?hr ?_;(case hd=>rfl);(case hg=>rfl);(case hr=>first | (go_simp;done) | (go_simp;rfl));intro gb228 hg w15 hbox hb;have n0_:=aM_ (blk_below (g:=gb219) (o:=.cells #[.bool false,.slice none 0 0,.slice none 0 0,.slice none 0 0] 29 (0,0)) (by exact kZ_ BK219) hb);have n1_:=aM_ (J98.below (by repeat first | exact J98.z HI220 | apply J98.set_1 | apply J98.set_2 | refine J98.y ?_) hb);have n2_:=aM_ (bT_ (by have e0_:=aM_ (J98.ge HI220.out);exact bZ_ HB) hb);have n3_:=aM_ (hbox);have n4_:=aM_ ((by rw [hg];exact (bS_ (by have e0_:=aM_ (J98.ge HI220.out);exact bZ_ HB)) : w.heap.size ≤ gb228));have n5_:=aM_ ((by rw [hg];exact (bS_ (by have e0_:=aM_ (J98.ge HI220.out);exact bZ_ HB)) : w.heap.size ≤ gb228));have n6_:=aM_ ((by rw [hg];exact Nat.ne_of_lt (blk_lt (g:=gb219) (o:=.cells #[.bool false,.slice none 0 0,.slice none 0 0,.slice none 0 0] 29 (0,0)) (by exact kZ_ BK219)) : gb219 ≠ gb228));have n7_:=aM_ ((by rw [hg];exact Nat.ne_of_gt (blk_lt (g:=gb219) (o:=.cells #[.bool false,.slice none 0 0,.slice none 0 0,.slice none 0 0] 29 (0,0)) (by exact kZ_ BK219)) : gb228 ≠ gb219));have n8_:=aM_ ((by rw [hg];exact Nat.ne_of_lt (J98.lt (show J98 w _ gb220 l0 t225 x221002_3 from by repeat first | exact J98.z HI220 | apply J98.set_1 | apply J98.set_2 | refine J98.y ?_)) : gb220 ≠ gb228));have n9_:=aM_ ((by rw [hg];exact Nat.ne_of_gt (J98.lt (show J98 w _ gb220 l0 t225 x221002_3 from by repeat first | exact J98.z HI220 | apply J98.set_1 | apply J98.set_2 | refine J98.y ?_)) : gb228 ≠ gb220));clear BK219 HI220 HB;have BK219:=n0_;have HI220:=n1_;have HB:=n2_;have BK228:=n3_;have GW228:=n4_;have GE228:=n5_;have NB219_228:=n6_;have NB228_219:=n7_;have NB220_228:=n8_;have NB228_220:=n9_;clear n0_ n1_ n2_ n3_ n4_ n5_ n6_ n7_ n8_ n9_ hb hbox hg;have hnb16:=NB228_219.out;have hnc16:=NB219_228.out;have hnb17:=NB228_220.out;have hnc17:=NB220_228.out;have hcz18_0 : w15.cell? ⟨gb228,0,none⟩ = some (.bool false):=(kC_ BK228.out 0).trans rfl;have hcz18_1 : w15.cell? ⟨gb228,1,none⟩ = some (.slice none 0 0):=(kC_ BK228.out 1).trans rfl;have hcz18_2 : w15.cell? ⟨gb228,2,none⟩ = some (.slice none 0 0):=(kC_ BK228.out 2).trans rfl;have hcz18_3 : w15.cell? ⟨gb228,3,none⟩ = some (.slice none 0 0):=(kC_ BK228.out 3).trans rfl;have hfz18_0:=kF_ BK228.out 0;have hfz18_1:=kF_ BK228.out 1;have hfz18_2:=kF_ BK228.out 2;have hfz18_3:=kF_ BK228.out 3))
   (try simp only [Act.put,sI_,sZ_,sS_])
   go_cut [] (fun wc=>∃ (kq : Nat) (x221001_13 : Int) (x221002_13 : Bool) (x229001_13 : List ByteArray) (u229001 : Value),Aside0 (spec_GetNode.j2 kq l0 t224 l0 x221001_13 x221002_13 y227 x229001_13 = some (r1,r2,r3,r4,r5)) ∧ Aside0 (kq ≤ kj3) ∧ Aside0 (Kd.R Kd.string 9 wc w.heap.size (fun _=>True) u229001 x229001_13) ∧ Aside0 (wc.heap[gb219]? = some (.cells #[.bool false,(.slice none 0 0),(.slice none 0 0),(.slice none 0 0)] 29 (0,0))) ∧ Aside0 (wc.heap[gb228]? = some (.cells #[.bool y227,u229001,(.slice none 0 0),(.slice none 0 0)] 29 (0,0))) ∧ Aside0 (J98 w wc gb220 l0 x221001_13 x221002_13) ∧ Aside0 (Below w.heap.size w wc))
   case first =>
    have H:=HC14.out
    clear HC14
    have H':=aM_ H
    clear H
    go_wp2
    (try simp only [Act.put,sI_,sS_,sZ_])
    go_loopg [8] kj3 (fun kq v8 w'=>∃ (x8_2 : Int) (x221001_2 : Int) (x221002_2 : Bool) (x229001_2 : List ByteArray) (u229001 : Value),v8 = .int .i64 x8_2 ∧ Aside0 (spec_GetNode.l0 kq l0 t224 x8_2 l0 x221001_2 x221002_2 y227 x229001_2 = some (r1,r2,r3,r4,r5)) ∧ Aside0 (kq ≤ kj3) ∧ Aside0 (Kd.R Kd.string 9 w' w.heap.size (fun _=>True) u229001 x229001_2) ∧ Aside0 (w'.heap[gb219]? = some (.cells #[.bool false,(.slice none 0 0),(.slice none 0 0),(.slice none 0 0)] 29 (0,0))) ∧ Aside0 (w'.heap[gb228]? = some (.cells #[.bool y227,u229001,(.slice none 0 0),(.slice none 0 0)] 29 (0,0))) ∧ Aside0 (J98 w w' gb220 l0 x221001_2 x221002_2) ∧ Aside0 (Below w.heap.size w w'))
    case atStart=>exact ⟨(0),(t225),(x221002_3),(([] : List ByteArray)),(.slice none 0 0),(by first | rfl | (simp;done) | (simp [*];done)),H', ⟨Nat.le_refl _⟩,⟨by first | exact Kd.R_nil _ _ _ _ _ | exact Kd.N_nil _ _ _ _ _ | exact Kd.V_nil _ _ _ _ _ | exact Kd.Q_nil _ _ _ _ _ | exact Kd.S_nil _ _ _ _ _⟩,⟨by exact kW_ BK219⟩,⟨by (with_reducible repeat (first | refine kN_ ?_ _ | refine kD_ ?_ | refine kA_ ?_ _));refine kP_ (cs:=#[.bool y227,.slice none 0 0,.slice none 0 0,.slice none 0 0]) ?_ 3 _ rfl;(with_reducible repeat (first | refine kN_ ?_ _ | refine kD_ ?_ | refine kA_ ?_ _));refine kP_ (cs:=#[.bool y227,.slice none 0 0,.slice none 0 0,.slice none 0 0]) ?_ 2 _ rfl;(with_reducible repeat (first | refine kN_ ?_ _ | refine kD_ ?_ | refine kA_ ?_ _));refine kP_ (cs:=#[.bool y227,.slice none 0 0,.slice none 0 0,.slice none 0 0]) ?_ 1 _ rfl;(with_reducible repeat (first | refine kN_ ?_ _ | refine kD_ ?_ | refine kA_ ?_ _));refine kP_ (cs:=#[.bool false,.slice none 0 0,.slice none 0 0,.slice none 0 0]) ?_ 0 _ rfl;exact kZ_ BK228⟩,⟨by repeat first | exact J98.z HI220 | apply J98.set_1 | apply J98.set_2 | refine J98.y ?_⟩,⟨by have e0_:=aM_ (J98.ge HI220.out);exact bZ_ HB⟩⟩
    case round =>
     clear H'
     clear hcz18_0 hcz18_1 hcz18_2 hcz18_3 hfz18_0 hfz18_1 hfz18_2 hfz18_3
     obtain ⟨x8_2,x221001_2,x221002_2,x229001_2,u229001,rfl,HA,HK2,HO_229001,BK219,BK228,HI220,HB⟩:=hrel
     cases gk with
     | zero=>exact absurd HA.out (by simp [spec_GetNode.l0])
     | succ k2 =>
      have H:=HA.out
      clear HA
      simp only [spec_GetNode.l0] at H
      by_cases c19 : x8_2 < t224
      ·rw [if_pos c19] at H
       have c19b0 : decide (x8_2 < t224) = true:=decide_eq_true c19
       clear c19
       (first | rw [c19b0] | (simp only [i64_w,i32_w];rw [c19b0]) | skip)
       by_cases c20 : x221002_2 = true
       ·subst c20
        have H1 : (spec_GetNode.j2 k2 l0 t224 l0 x221001_2 true y227 x229001_2) = some (r1,r2,r3,r4,r5):=by rw [if_pos rfl] at H;exact H
        clear H
        have H:=H1
        clear H1
        have H':=aM_ H
        clear H
        obtain ⟨ASz21_0,cSz21_0,HGz21,hgz21,HSz21_0,HLnz21_0⟩:=HI220.out
        have hcz21_0:=cellS98_0 HGz21
        have hcz21_1:=cellS98_1 HGz21
        have hcz21_2:=cellS98_2 HGz21
        have hfz21_1:=kF_ HGz21 1
        have hfz21_2:=kF_ HGz21 2
        clear HGz21 hgz21
        go_wp2
        (first | go_meet | (refine Met.intro ?_;go_step;(repeat apply Exists.intro);refine ⟨?rel,?eq⟩;(case eq=>(try simp only [c11b0]);(try simp only [c11b0]);(try simp only [c19b0]);rfl)))
        case rel=>exact ⟨_,(x221001_2),(true),(x229001_2),(u229001),H', ⟨by have:=HJ3.out;have:=HK2.out;first | omega | exact Nat.le_refl _⟩,⟨by exact rZ_ HO_229001⟩,⟨by exact kZ_ BK219⟩,⟨by exact kZ_ BK228⟩,⟨by repeat first | exact J98.z HI220 | apply J98.set_1 | apply J98.set_2 | refine J98.y ?_⟩,⟨by have e0_:=aM_ (J98.ge HI220.out);exact bZ_ HB⟩⟩
       ·replace c20:=Bool.eq_false_iff.mpr c20
        subst c20
        have H1 : ((spec_l14Text.f k2 l0 x221001_2 false).bind fun bt229=>(if x229001_2.length < 8796093022208 then (spec_GetNode.l0 k2 l0 t224 (wrap64 (x8_2 + 1)) l0 bt229.2.1 bt229.2.2 y227 (x229001_2 ++ [bt229.1])) else (none))) = some (r1,r2,r3,r4,r5):=by rw [if_neg (show ¬ (false = true) by decide)] at H;exact H
        clear H
        have H:=H1
        clear H1
        replace H:=oB_ H
        obtain ⟨⟨t229,t230,t231⟩,A220,H⟩:=H
        replace H : (if x229001_2.length < 8796093022208 then (spec_GetNode.l0 k2 l0 t224 (wrap64 (x8_2 + 1)) l0 t230 t231 y227 (x229001_2 ++ [t229])) else (none)) = some (r1,r2,r3,r4,r5):=H
        have A22:=aM_ A220
        clear A220
        by_cases c23 : x229001_2.length < 8796093022208
        ·rw [if_pos c23] at H
         have LMc23:=aM_ c23
         clear c23
         obtain ⟨y232,hy232⟩ : ∃ y_ : List ByteArray,y_ = (x229001_2 ++ [t229]):=⟨_,rfl⟩
         replace H : (spec_GetNode.l0 k2 l0 t224 (wrap64 (x8_2 + 1)) l0 t230 t231 y227 y232) = some (r1,r2,r3,r4,r5):=by first | (rw [hy232];with_reducible exact H) | (have H2_:=(Option.bind_some _ _).symm.trans H;rw [hy232];with_reducible exact H2_) | (have H2_:=(Option.bind_some _ _).symm.trans H;with_reducible exact H2_) | with_reducible exact H | (rw [hy232];exact H) | exact H
         have Ny232:=aM_ hy232
         clear hy232
         have H':=aM_ H
         clear H
         obtain ⟨ASz24_0,cSz24_0,HGz24,hgz24,HSz24_0,HLnz24_0⟩:=HI220.out
         have hcz24_0:=cellS98_0 HGz24
         have hcz24_1:=cellS98_1 HGz24
         have hcz24_2:=cellS98_2 HGz24
         have hfz24_1:=kF_ HGz24 1
         have hfz24_2:=kF_ HGz24 2
         clear HGz24 hgz24
         go_wp2_with (first | ((with_reducible refine gate_callee (f:=77) rfl ?_);refine goesL_ (some 54) rfl rfl Try.func77 (by kernel_rfl) rfl #[.pointer (some ⟨gb220,0,none⟩)] rfl (by (try simp only [mA_,mC_,mN_]);first | done | rfl | (simp only [lD_,lT_];rfl)) ?_;(with_reducible refine (spec_l14Text.calls k2 gb220 l0 x221001_2 false t229 t230 t231 w _ ?side1 ?side2 A22.out).mono ?_);(case side1=>repeat first | exact J98.z HI220 | apply J98.set_1 | apply J98.set_2 | refine J98.y ?_);(case side2=>have e0_:=aM_ (J98.ge HI220.out);exact bZ_ HB);rintro e w25 ⟨rfl,hi,hb,hk⟩;refine ⟨_,rfl,?_⟩;have n0_:=aM_ (Kd.R_mono (Kd.R_keep (J98.apart (show J98 w _ gb220 l0 x221001_2 false from by repeat first | exact J98.z HI220 | apply J98.set_1 | apply J98.set_2 | refine J98.y ?_) (by exact rZ_ HO_229001) (by decide)) hk (fun _ h=>h.2)) (fun _ h=>h.1));have n1_:=aM_ (KeepBut.blk hk (g':=gb219) (o:=.cells #[.bool false,.slice none 0 0,.slice none 0 0,.slice none 0 0] 29 (0,0)) (by exact kZ_ BK219) NB219_220.out (by simp));have n2_:=aM_ (KeepBut.blk hk (g':=gb228) (o:=.cells #[.bool y227,u229001,.slice none 0 0,.slice none 0 0] 29 (0,0)) (by exact kZ_ BK228) NB228_220.out (by simp));have n3_:=aM_ (hb);have n4_:=aM_ (hi);clear HO_229001 BK219 BK228 HB HI220;have HO_229001:=n0_;have BK219:=n1_;have BK228:=n2_;have HB:=n3_;have HI220:=n4_;clear n0_ n1_ n2_ n3_ n4_ hb hk hi;have hnb26:=NB228_219.out;have hnc26:=NB219_228.out;have hnb27:=NB228_220.out;have hnc27:=NB220_228.out;have hcz28_0 : w25.cell? ⟨gb228,0,none⟩ = some (.bool y227):=(kC_ BK228.out 0).trans rfl;have hcz28_1 : w25.cell? ⟨gb228,1,none⟩ = some (u229001):=(kC_ BK228.out 1).trans rfl;have hcz28_2 : w25.cell? ⟨gb228,2,none⟩ = some (.slice none 0 0):=(kC_ BK228.out 2).trans rfl;have hcz28_3 : w25.cell? ⟨gb228,3,none⟩ = some (.slice none 0 0):=(kC_ BK228.out 3).trans rfl;have hfz28_0:=kF_ BK228.out 0;have hfz28_1:=kF_ BK228.out 1;have hfz28_2:=kF_ BK228.out 2;have hfz28_3:=kF_ BK228.out 3) | ((with_reducible refine gate_builtin (b:=.append) (xs:=#[.tmp 56,.tmp 58]) rfl ?_);(try (refine gate_guard (by rfl) ?_;dsimp only));at_builtin;refine Kd.R_append Kd.string (w0:=w) w.heap.size rfl (.tmp 56) (.tmp 58) 22 9 (.string ⟨#[]⟩) 16 rfl Try.underlying22 info9 rfl (by decide) (by omega) u229001 x229001_2 t229 [.string t229] (fun _=>True) (fun _=>False) rfl rfl ?aP (fun _ hk=>hk.elim) ?aF ?aO ?aB ?aS ?aL ?_;(case aP=>exact rfl);(case aB=>exact (by have e0_:=aM_ (J98.ge HI220.out);exact bZ_ HB));(case aF=>exact (fun _ _=>trivial));(case aO=>exact (by exact rZ_ HO_229001));(case aS=>exact (bS_ (by have e0_:=aM_ (J98.ge HI220.out);exact bZ_ HB)));(case aL=>have:=LMc23.out;omega);intro v233 w29 ho hb hg hat;rw [← Ny232.out] at ho;have n0_:=aM_ (blk_grown (g:=gb219) (o:=.cells #[.bool false,.slice none 0 0,.slice none 0 0,.slice none 0 0] 29 (0,0)) (by exact kZ_ BK219) hg (Kd.R_ne HO_229001.out BK219.out (by decide)));have n1_:=aM_ (blk_grown (g:=gb228) (o:=.cells #[.bool y227,u229001,.slice none 0 0,.slice none 0 0] 29 (0,0)) (by exact kZ_ BK228) hg (Kd.R_ne HO_229001.out BK228.out (by decide)));have n2_:=aM_ (J98.grown (by repeat first | exact J98.z HI220 | apply J98.set_1 | apply J98.set_2 | refine J98.y ?_) hg (J98.own_ne HI220.out HO_229001.out (by decide)));have n3_:=aM_ (hb);have n4_:=aM_ (ho);clear BK219 BK228 HI220 HB HO_229001;have BK219:=n0_;have BK228:=n1_;have HI220:=n2_;have HB:=n3_;have HO234:=n4_;clear n0_ n1_ n2_ n3_ n4_ ho hb hg hat;obtain ⟨Ao30,co30,eo30⟩:=Kd.R_slice HO234.out;subst eo30;have hcz31_0 : w29.cell? ⟨gb228,0,none⟩ = some (.bool y227):=(kC_ BK228.out 0).trans rfl;have hcz31_1 : w29.cell? ⟨gb228,1,none⟩ = some (u229001):=(kC_ BK228.out 1).trans rfl;have hcz31_2 : w29.cell? ⟨gb228,2,none⟩ = some (.slice none 0 0):=(kC_ BK228.out 2).trans rfl;have hcz31_3 : w29.cell? ⟨gb228,3,none⟩ = some (.slice none 0 0):=(kC_ BK228.out 3).trans rfl;have hfz31_0:=kF_ BK228.out 0;have hfz31_1:=kF_ BK228.out 1;have hfz31_2:=kF_ BK228.out 2;have hfz31_3:=kF_ BK228.out 3))
         go_roundg k2
         case measure=>have:=HJ3.out;have:=HK2.out;omega
         case rel=>exact ⟨(wrap64 (x8_2 + 1)),(t230),(t231),(y232),(.slice Ao30 y232.length co30),(by first | rfl | (simp;done) | (simp [*];done)),H', ⟨by have:=HJ3.out;have:=HK2.out;omega⟩,⟨by (with_reducible repeat (first | apply rA_ | apply rN_ | apply rD_));exact Kd.R_mono (Kd.R_far (p:=⟨gb228,1,none⟩) (Kd.R_types HO234.out BK228.out (by decide)) (fun _ hk=>hk.2) (.slice Ao30 y232.length co30)) (fun _ hk=>trivial)⟩,⟨by exact kW_ BK219⟩,⟨by (with_reducible repeat (first | refine kN_ ?_ _ | refine kD_ ?_ | refine kA_ ?_ _));refine kP_ (cs:=#[.bool y227,u229001,.slice none 0 0,.slice none 0 0]) ?_ 1 _ rfl;exact kZ_ BK228⟩,⟨by repeat first | exact J98.z HI220 | apply J98.set_1 | apply J98.set_2 | refine J98.y ?_⟩,⟨by have e0_:=aM_ (J98.ge HI220.out);exact bZ_ HB⟩⟩
        ·rw [if_neg c23] at H
         exact absurd H (by simp)
      ·rw [if_neg c19] at H
       have c19b0 : decide (x8_2 < t224) = false:=decide_eq_false c19
       clear c19
       (first | rw [c19b0] | (simp only [i64_w,i32_w];rw [c19b0]) | skip)
       have H':=aM_ H
       clear H
       go_wp2
       (first | go_meet | (refine Met.intro ?_;go_step;(repeat apply Exists.intro);refine ⟨?rel,?eq⟩;(case eq=>(try simp only [c11b0]);(try simp only [c19b0]);(try simp only [c19b0]);rfl)))
       case rel=>exact ⟨_,(x221001_2),(x221002_2),(x229001_2),(u229001),H', ⟨by have:=HJ3.out;have:=HK2.out;first | omega | exact Nat.le_refl _⟩,⟨by exact rZ_ HO_229001⟩,⟨by exact kZ_ BK219⟩,⟨by exact kZ_ BK228⟩,⟨by repeat first | exact J98.z HI220 | apply J98.set_1 | apply J98.set_2 | refine J98.y ?_⟩,⟨by have e0_:=aM_ (J98.ge HI220.out);exact bZ_ HB⟩⟩
   case rest =>
    clear HC14 hcz18_0 hcz18_1 hcz18_2 hcz18_3 hfz18_0 hfz18_1 hfz18_2 hfz18_3
    obtain ⟨kq,x221001_13,x221002_13,x229001_13,u229001,HA,HJ13,HO_229001,BK219,BK228,HI220,HB⟩:=hcut
    cases kq with
    | zero=>exact absurd HA.out (by simp [spec_GetNode.j2])
    | succ kj13 =>
     have H:=HA.out
     clear HA
     simp only [spec_GetNode.j2] at H
     have HC32:=aM_ H
     clear H
     go_upto_block 2 with (fail)
     go_cut [] (fun wc=>∃ (kq : Nat) (x221001_31 : Int) (x221002_31 : Bool) (x229002_31 : List ByteArray) (u229002 : Value),Aside0 (spec_GetNode.j4 kq l0 t224 l0 x221001_31 x221002_31 y227 x229001_13 x229002_31 = some (r1,r2,r3,r4,r5)) ∧ Aside0 (kq ≤ kj13) ∧ Aside0 (Kd.R Kd.string 9 wc w.heap.size (fun k_=>some k_ ≠ (u229002 : Value).ownBlock) u229001 x229001_13) ∧ Aside0 (Kd.R Kd.string 9 wc w.heap.size (fun k_=>some k_ ≠ (u229001 : Value).ownBlock) u229002 x229002_31) ∧ Aside0 (wc.heap[gb219]? = some (.cells #[.bool false,(.slice none 0 0),(.slice none 0 0),(.slice none 0 0)] 29 (0,0))) ∧ Aside0 (wc.heap[gb228]? = some (.cells #[.bool y227,u229001,u229002,(.slice none 0 0)] 29 (0,0))) ∧ Aside0 (J98 w wc gb220 l0 x221001_31 x221002_31) ∧ Aside0 (Below w.heap.size w wc))
     case first =>
      have H:=HC32.out
      clear HC32
      have H':=aM_ H
      clear H
      go_wp2
      (try simp only [Act.put,sI_,sS_,sZ_])
      go_loopg [10] kj13 (fun kq v10 w'=>∃ (x10_3 : Int) (x221001_3 : Int) (x221002_3 : Bool) (x229002_3 : List ByteArray) (u229002 : Value),v10 = .int .i64 x10_3 ∧ Aside0 (spec_GetNode.l1 kq l0 t224 x10_3 l0 x221001_3 x221002_3 y227 x229001_13 x229002_3 = some (r1,r2,r3,r4,r5)) ∧ Aside0 (kq ≤ kj13) ∧ Aside0 (Kd.R Kd.string 9 w' w.heap.size (fun k_=>some k_ ≠ (u229002 : Value).ownBlock) u229001 x229001_13) ∧ Aside0 (Kd.R Kd.string 9 w' w.heap.size (fun k_=>some k_ ≠ (u229001 : Value).ownBlock) u229002 x229002_3) ∧ Aside0 (w'.heap[gb219]? = some (.cells #[.bool false,(.slice none 0 0),(.slice none 0 0),(.slice none 0 0)] 29 (0,0))) ∧ Aside0 (w'.heap[gb228]? = some (.cells #[.bool y227,u229001,u229002,(.slice none 0 0)] 29 (0,0))) ∧ Aside0 (J98 w w' gb220 l0 x221001_3 x221002_3) ∧ Aside0 (Below w.heap.size w w'))
      case atStart=>exact ⟨(0),(x221001_13),(x221002_13),(([] : List ByteArray)),(.slice none 0 0),(by first | rfl | (simp;done) | (simp [*];done)),H', ⟨Nat.le_refl _⟩,⟨by (with_reducible repeat (first | apply rA_ | apply rN_ | apply rD_));exact Kd.R_mono HO_229001.out (fun _ hk=>(by simp [Value.ownBlock]))⟩,⟨by first | exact Kd.R_nil _ _ _ _ _ | exact Kd.N_nil _ _ _ _ _ | exact Kd.V_nil _ _ _ _ _ | exact Kd.Q_nil _ _ _ _ _ | exact Kd.S_nil _ _ _ _ _⟩,⟨by exact kZ_ BK219⟩,⟨by exact kZ_ BK228⟩,⟨by repeat first | exact J98.z HI220 | apply J98.set_1 | apply J98.set_2 | refine J98.y ?_⟩,⟨by have e0_:=aM_ (J98.ge HI220.out);exact bZ_ HB⟩⟩
      case round =>
       clear H'
       obtain ⟨x10_3,x221001_3,x221002_3,x229002_3,u229002,rfl,HA,HK3,HO_229001,HO_229002,BK219,BK228,HI220,HB⟩:=hrel
       cases gk with
       | zero=>exact absurd HA.out (by simp [spec_GetNode.l1])
       | succ k3 =>
        have H:=HA.out
        clear HA
        simp only [spec_GetNode.l1] at H
        by_cases c33 : x10_3 < t224
        ·rw [if_pos c33] at H
         have c33b0 : decide (x10_3 < t224) = true:=decide_eq_true c33
         clear c33
         (first | rw [c33b0] | (simp only [i64_w,i32_w];rw [c33b0]) | skip)
         by_cases c34 : x221002_3 = true
         ·subst c34
          have H1 : (spec_GetNode.j4 k3 l0 t224 l0 x221001_3 true y227 x229001_13 x229002_3) = some (r1,r2,r3,r4,r5):=by rw [if_pos rfl] at H;exact H
          clear H
          have H:=H1
          clear H1
          have H':=aM_ H
          clear H
          obtain ⟨ASz35_0,cSz35_0,HGz35,hgz35,HSz35_0,HLnz35_0⟩:=HI220.out
          have hcz35_0:=cellS98_0 HGz35
          have hcz35_1:=cellS98_1 HGz35
          have hcz35_2:=cellS98_2 HGz35
          have hfz35_1:=kF_ HGz35 1
          have hfz35_2:=kF_ HGz35 2
          clear HGz35 hgz35
          go_wp2
          (first | go_meet | (refine Met.intro ?_;go_step;(repeat apply Exists.intro);refine ⟨?rel,?eq⟩;(case eq=>(try simp only [c19b0]);(try simp only [c19b0]);(try simp only [c33b0]);rfl)))
          case rel=>exact ⟨_,(x221001_3),(true),(x229002_3),(u229002),H', ⟨by have:=HJ3.out;have:=HJ13.out;have:=HK3.out;first | omega | exact Nat.le_refl _⟩,⟨by exact rZ_ HO_229001⟩,⟨by exact rZ_ HO_229002⟩,⟨by exact kZ_ BK219⟩,⟨by exact kZ_ BK228⟩,⟨by repeat first | exact J98.z HI220 | apply J98.set_1 | apply J98.set_2 | refine J98.y ?_⟩,⟨by have e0_:=aM_ (J98.ge HI220.out);exact bZ_ HB⟩⟩
         ·replace c34:=Bool.eq_false_iff.mpr c34
          subst c34
          have H1 : (if y227 = true then ((spec_l14Text.f k3 l0 x221001_3 false).bind fun bt235=>(if x229002_3.length < 8796093022208 then (spec_GetNode.l1 k3 l0 t224 (wrap64 (x10_3 + 1)) l0 bt235.2.1 bt235.2.2 y227 x229001_13 (x229002_3 ++ [bt235.1])) else (none))) else (spec_GetNode.j4 k3 l0 t224 l0 x221001_3 false y227 x229001_13 x229002_3)) = some (r1,r2,r3,r4,r5):=by rw [if_neg (show ¬ (false = true) by decide)] at H;exact H
          clear H
          have H:=H1
          clear H1
          by_cases c36 : y227 = true
          ·subst c36
           have H1 : ((spec_l14Text.f k3 l0 x221001_3 false).bind fun bt235=>(if x229002_3.length < 8796093022208 then (spec_GetNode.l1 k3 l0 t224 (wrap64 (x10_3 + 1)) l0 bt235.2.1 bt235.2.2 true x229001_13 (x229002_3 ++ [bt235.1])) else (none))) = some (r1,r2,r3,r4,r5):=by rw [if_pos rfl] at H;exact H
           clear H
           have H:=H1
           clear H1
           replace H:=oB_ H
           obtain ⟨⟨t235,t236,t237⟩,A370,H⟩:=H
           replace H : (if x229002_3.length < 8796093022208 then (spec_GetNode.l1 k3 l0 t224 (wrap64 (x10_3 + 1)) l0 t236 t237 true x229001_13 (x229002_3 ++ [t235])) else (none)) = some (r1,r2,r3,r4,r5):=H
           have A37:=aM_ A370
           clear A370
           by_cases c38 : x229002_3.length < 8796093022208
           ·rw [if_pos c38] at H
            have LMc38:=aM_ c38
            clear c38
            obtain ⟨y238,hy238⟩ : ∃ y_ : List ByteArray,y_ = (x229002_3 ++ [t235]):=⟨_,rfl⟩
            replace H : (spec_GetNode.l1 k3 l0 t224 (wrap64 (x10_3 + 1)) l0 t236 t237 true x229001_13 y238) = some (r1,r2,r3,r4,r5):=by first | (rw [hy238];with_reducible exact H) | (have H2_:=(Option.bind_some _ _).symm.trans H;rw [hy238];with_reducible exact H2_) | (have H2_:=(Option.bind_some _ _).symm.trans H;with_reducible exact H2_) | with_reducible exact H | (rw [hy238];exact H) | exact H
            have Ny238:=aM_ hy238
            clear hy238
            have H':=aM_ H
            clear H
            obtain ⟨ASz39_0,cSz39_0,HGz39,hgz39,HSz39_0,HLnz39_0⟩:=HI220.out
            have hcz39_0:=cellS98_0 HGz39
            have hcz39_1:=cellS98_1 HGz39
            have hcz39_2:=cellS98_2 HGz39
            have hfz39_1:=kF_ HGz39 1
            have hfz39_2:=kF_ HGz39 2
            clear HGz39 hgz39
            have hnb40:=NB228_219.out
            have hnc40:=NB219_228.out
            have hnb41:=NB228_220.out
            have hnc41:=NB220_228.out
            have hcz42_0 : wr.cell? ⟨gb228,0,none⟩ = some (.bool true):=(kC_ BK228.out 0).trans rfl
            have hcz42_1 : wr.cell? ⟨gb228,1,none⟩ = some (u229001):=(kC_ BK228.out 1).trans rfl
            have hcz42_2 : wr.cell? ⟨gb228,2,none⟩ = some (u229002):=(kC_ BK228.out 2).trans rfl
            have hcz42_3 : wr.cell? ⟨gb228,3,none⟩ = some (.slice none 0 0):=(kC_ BK228.out 3).trans rfl
            have hfz42_0:=kF_ BK228.out 0
            have hfz42_1:=kF_ BK228.out 1
            have hfz42_2:=kF_ BK228.out 2
            have hfz42_3:=kF_ BK228.out 3
            go_wp2_with (first | ((with_reducible refine gate_callee (f:=77) rfl ?_);refine goesL_ (some 78) rfl rfl Try.func77 (by kernel_rfl) rfl #[.pointer (some ⟨gb220,0,none⟩)] rfl (by (try simp only [mA_,mC_,mN_]);first | done | rfl | (simp only [lD_,lT_];rfl)) ?_;(with_reducible refine (spec_l14Text.calls k3 gb220 l0 x221001_3 false t235 t236 t237 w _ ?side1 ?side2 A37.out).mono ?_);(case side1=>repeat first | exact J98.z HI220 | apply J98.set_1 | apply J98.set_2 | refine J98.y ?_);(case side2=>have e0_:=aM_ (J98.ge HI220.out);exact bZ_ HB);rintro e w43 ⟨rfl,hi,hb,hk⟩;refine ⟨_,rfl,?_⟩;have n0_:=aM_ (Kd.R_mono (Kd.R_keep (J98.apart (show J98 w _ gb220 l0 x221001_3 false from by repeat first | exact J98.z HI220 | apply J98.set_1 | apply J98.set_2 | refine J98.y ?_) (by exact rZ_ HO_229001) (by decide)) hk (fun _ h=>h.2)) (fun _ h=>h.1));have n1_:=aM_ (Kd.R_mono (Kd.R_keep (J98.apart (show J98 w _ gb220 l0 x221001_3 false from by repeat first | exact J98.z HI220 | apply J98.set_1 | apply J98.set_2 | refine J98.y ?_) (by exact rZ_ HO_229002) (by decide)) hk (fun _ h=>h.2)) (fun _ h=>h.1));have n2_:=aM_ (KeepBut.blk hk (g':=gb219) (o:=.cells #[.bool false,.slice none 0 0,.slice none 0 0,.slice none 0 0] 29 (0,0)) (by exact kZ_ BK219) NB219_220.out (by simp));have n3_:=aM_ (KeepBut.blk hk (g':=gb228) (o:=.cells #[.bool true,u229001,u229002,.slice none 0 0] 29 (0,0)) (by exact kZ_ BK228) NB228_220.out (by simp));have n4_:=aM_ (hb);have n5_:=aM_ (hi);clear HO_229001 HO_229002 BK219 BK228 HB HI220;have HO_229001:=n0_;have HO_229002:=n1_;have BK219:=n2_;have BK228:=n3_;have HB:=n4_;have HI220:=n5_;clear n0_ n1_ n2_ n3_ n4_ n5_ hb hk hi;have hcz44_0 : w43.cell? ⟨gb228,0,none⟩ = some (.bool true):=(kC_ BK228.out 0).trans rfl;have hcz44_1 : w43.cell? ⟨gb228,1,none⟩ = some (u229001):=(kC_ BK228.out 1).trans rfl;have hcz44_2 : w43.cell? ⟨gb228,2,none⟩ = some (u229002):=(kC_ BK228.out 2).trans rfl;have hcz44_3 : w43.cell? ⟨gb228,3,none⟩ = some (.slice none 0 0):=(kC_ BK228.out 3).trans rfl;have hfz44_0:=kF_ BK228.out 0;have hfz44_1:=kF_ BK228.out 1;have hfz44_2:=kF_ BK228.out 2;have hfz44_3:=kF_ BK228.out 3) | ((with_reducible refine gate_builtin (b:=.append) (xs:=#[.tmp 80,.tmp 82]) rfl ?_);(try (refine gate_guard (by rfl) ?_;dsimp only));at_builtin;refine Kd.R_append Kd.string (w0:=w) w.heap.size rfl (.tmp 80) (.tmp 82) 22 9 (.string ⟨#[]⟩) 16 rfl Try.underlying22 info9 rfl (by decide) (by omega) u229002 x229002_3 t235 [.string t235] (fun k_=>some k_ ≠ (u229001 : Value).ownBlock) (fun _=>False) rfl rfl ?aP (fun _ hk=>hk.elim) ?aF ?aO ?aB ?aS ?aL ?_;(case aP=>exact rfl);(case aB=>exact (by have e0_:=aM_ (J98.ge HI220.out);exact bZ_ HB));(case aF=>exact (fun k_ hk=>Kd.fresh' (Kd.R_lt (by exact rZ_ HO_229001)) k_ hk));(case aO=>exact (by exact rZ_ HO_229002));(case aS=>exact (bS_ (by have e0_:=aM_ (J98.ge HI220.out);exact bZ_ HB)));(case aL=>have:=LMc38.out;omega);intro v239 w45 ho hb hg hat;rw [← Ny238.out] at ho;have n0_:=aM_ (Kd.R_after (ok:=(fun _=>True)) (by (with_reducible repeat (first | apply rA_ | apply rN_ | apply rD_));exact Kd.R_mono HO_229001.out (fun _ hk=>⟨trivial,hk⟩)) hg hat);have n1_:=aM_ (blk_grown (g:=gb219) (o:=.cells #[.bool false,.slice none 0 0,.slice none 0 0,.slice none 0 0] 29 (0,0)) (by exact kZ_ BK219) hg (Kd.R_ne HO_229002.out BK219.out (by decide)));have n2_:=aM_ (blk_grown (g:=gb228) (o:=.cells #[.bool true,u229001,u229002,.slice none 0 0] 29 (0,0)) (by exact kZ_ BK228) hg (Kd.R_ne HO_229002.out BK228.out (by decide)));have n3_:=aM_ (J98.grown (by repeat first | exact J98.z HI220 | apply J98.set_1 | apply J98.set_2 | refine J98.y ?_) hg (J98.own_ne HI220.out HO_229002.out (by decide)));have n4_:=aM_ (hb);have n5_:=aM_ (ho);clear HO_229001 BK219 BK228 HI220 HB HO_229002;have HO_229001:=n0_;have BK219:=n1_;have BK228:=n2_;have HI220:=n3_;have HB:=n4_;have HO240:=n5_;clear n0_ n1_ n2_ n3_ n4_ n5_ ho hb hg hat;obtain ⟨Ao46,co46,eo46⟩:=Kd.R_slice HO240.out;subst eo46;have hcz47_0 : w45.cell? ⟨gb228,0,none⟩ = some (.bool true):=(kC_ BK228.out 0).trans rfl;have hcz47_1 : w45.cell? ⟨gb228,1,none⟩ = some (u229001):=(kC_ BK228.out 1).trans rfl;have hcz47_2 : w45.cell? ⟨gb228,2,none⟩ = some (u229002):=(kC_ BK228.out 2).trans rfl;have hcz47_3 : w45.cell? ⟨gb228,3,none⟩ = some (.slice none 0 0):=(kC_ BK228.out 3).trans rfl;have hfz47_0:=kF_ BK228.out 0;have hfz47_1:=kF_ BK228.out 1;have hfz47_2:=kF_ BK228.out 2;have hfz47_3:=kF_ BK228.out 3))
            go_roundg k3
            case measure=>have:=HJ3.out;have:=HJ13.out;have:=HK3.out;omega
            case rel=>exact ⟨(wrap64 (x10_3 + 1)),(t236),(t237),(y238),(.slice Ao46 y238.length co46),(by first | rfl | (simp;done) | (simp [*];done)),H', ⟨by have:=HJ3.out;have:=HJ13.out;have:=HK3.out;omega⟩,⟨by (with_reducible repeat (first | apply rA_ | apply rN_ | apply rD_));exact Kd.R_mono (Kd.R_far (p:=⟨gb228,2,none⟩) (Kd.R_types HO_229001.out BK228.out (by decide)) (fun _ hk=>hk.2) (.slice Ao46 y238.length co46)) (fun _ hk=>hk.1.2)⟩,⟨by (with_reducible repeat (first | apply rA_ | apply rN_ | apply rD_));exact Kd.R_mono (Kd.R_far (p:=⟨gb228,2,none⟩) (Kd.R_types HO240.out BK228.out (by decide)) (fun _ hk=>hk.2) (.slice Ao46 y238.length co46)) (fun _ hk=>hk.1)⟩,⟨by exact kW_ BK219⟩,⟨by (with_reducible repeat (first | refine kN_ ?_ _ | refine kD_ ?_ | refine kA_ ?_ _));refine kP_ (cs:=#[.bool true,u229001,u229002,.slice none 0 0]) ?_ 2 _ rfl;exact kZ_ BK228⟩,⟨by repeat first | exact J98.z HI220 | apply J98.set_1 | apply J98.set_2 | refine J98.y ?_⟩,⟨by have e0_:=aM_ (J98.ge HI220.out);exact bZ_ HB⟩⟩
           ·rw [if_neg c38] at H
            exact absurd H (by simp)
          ·replace c36:=Bool.eq_false_iff.mpr c36
           subst c36
           have H1 : (spec_GetNode.j4 k3 l0 t224 l0 x221001_3 false false x229001_13 x229002_3) = some (r1,r2,r3,r4,r5):=by rw [if_neg (show ¬ (false = true) by decide)] at H;exact H
           clear H
           have H:=H1
           clear H1
           have H':=aM_ H
           clear H
           obtain ⟨ASz48_0,cSz48_0,HGz48,hgz48,HSz48_0,HLnz48_0⟩:=HI220.out
           have hcz48_0:=cellS98_0 HGz48
           have hcz48_1:=cellS98_1 HGz48
           have hcz48_2:=cellS98_2 HGz48
           have hfz48_1:=kF_ HGz48 1
           have hfz48_2:=kF_ HGz48 2
           clear HGz48 hgz48
           have hnb49:=NB228_219.out
           have hnc49:=NB219_228.out
           have hnb50:=NB228_220.out
           have hnc50:=NB220_228.out
           have hcz51_0 : wr.cell? ⟨gb228,0,none⟩ = some (.bool false):=(kC_ BK228.out 0).trans rfl
           have hcz51_1 : wr.cell? ⟨gb228,1,none⟩ = some (u229001):=(kC_ BK228.out 1).trans rfl
           have hcz51_2 : wr.cell? ⟨gb228,2,none⟩ = some (u229002):=(kC_ BK228.out 2).trans rfl
           have hcz51_3 : wr.cell? ⟨gb228,3,none⟩ = some (.slice none 0 0):=(kC_ BK228.out 3).trans rfl
           have hfz51_0:=kF_ BK228.out 0
           have hfz51_1:=kF_ BK228.out 1
           have hfz51_2:=kF_ BK228.out 2
           have hfz51_3:=kF_ BK228.out 3
           go_wp2
           (first | go_meet | (refine Met.intro ?_;go_step;(repeat apply Exists.intro);refine ⟨?rel,?eq⟩;(case eq=>(try simp only [c19b0]);(try simp only [c19b0]);(try simp only [c33b0]);rfl)))
           case rel=>exact ⟨_,(x221001_3),(false),(x229002_3),(u229002),H', ⟨by have:=HJ3.out;have:=HJ13.out;have:=HK3.out;first | omega | exact Nat.le_refl _⟩,⟨by exact rZ_ HO_229001⟩,⟨by exact rZ_ HO_229002⟩,⟨by exact kZ_ BK219⟩,⟨by exact kZ_ BK228⟩,⟨by repeat first | exact J98.z HI220 | apply J98.set_1 | apply J98.set_2 | refine J98.y ?_⟩,⟨by have e0_:=aM_ (J98.ge HI220.out);exact bZ_ HB⟩⟩
        ·rw [if_neg c33] at H
         have c33b0 : decide (x10_3 < t224) = false:=decide_eq_false c33
         clear c33
         (first | rw [c33b0] | (simp only [i64_w,i32_w];rw [c33b0]) | skip)
         have H':=aM_ H
         clear H
         go_wp2
         (first | go_meet | (refine Met.intro ?_;go_step;(repeat apply Exists.intro);refine ⟨?rel,?eq⟩;(case eq=>(try simp only [c19b0]);(try simp only [c33b0]);(try simp only [c33b0]);rfl)))
         case rel=>exact ⟨_,(x221001_3),(x221002_3),(x229002_3),(u229002),H', ⟨by have:=HJ3.out;have:=HJ13.out;have:=HK3.out;first | omega | exact Nat.le_refl _⟩,⟨by exact rZ_ HO_229001⟩,⟨by exact rZ_ HO_229002⟩,⟨by exact kZ_ BK219⟩,⟨by exact kZ_ BK228⟩,⟨by repeat first | exact J98.z HI220 | apply J98.set_1 | apply J98.set_2 | refine J98.y ?_⟩,⟨by have e0_:=aM_ (J98.ge HI220.out);exact bZ_ HB⟩⟩
     case rest =>
      clear HC32
      obtain ⟨kq,x221001_31,x221002_31,x229002_31,u229002,HA,HJ31,HO_229001,HO_229002,BK219,BK228,HI220,HB⟩:=hcut
      cases kq with
      | zero=>exact absurd HA.out (by simp [spec_GetNode.j4])
      | succ kj31 =>
       have H:=HA.out
       clear HA
       simp only [spec_GetNode.j4] at H
       have H':=aM_ H
       clear H
       go_wp2
       (try simp only [Act.put,sI_,sS_,sZ_])
       go_loopg [12] kj31 (fun kq v12 w'=>∃ (x12_4 : Int) (x221001_4 : Int) (x221002_4 : Bool) (x229003_4 : List Int) (u229003 : Value),v12 = .int .i64 x12_4 ∧ Aside0 (spec_GetNode.l2 kq l0 t224 x12_4 l0 x221001_4 x221002_4 y227 x229001_13 x229002_31 x229003_4 = some (r1,r2,r3,r4,r5)) ∧ Aside0 (kq ≤ kj31) ∧ Aside0 (Kd.R Kd.string 9 w' w.heap.size (fun k_=>some k_ ≠ (u229002 : Value).ownBlock) u229001 x229001_13) ∧ Aside0 (Kd.R Kd.string 9 w' w.heap.size (fun k_=>some k_ ≠ (u229001 : Value).ownBlock) u229002 x229002_31) ∧ Aside0 (Kd.R (Kd.int .i64) 3 w' w.heap.size (fun _=>True) u229003 x229003_4) ∧ Aside0 (w'.heap[gb219]? = some (.cells #[.bool false,(.slice none 0 0),(.slice none 0 0),(.slice none 0 0)] 29 (0,0))) ∧ Aside0 (w'.heap[gb228]? = some (.cells #[.bool y227,u229001,u229002,u229003] 29 (0,0))) ∧ Aside0 (J98 w w' gb220 l0 x221001_4 x221002_4) ∧ Aside0 (Below w.heap.size w w'))
       case atStart=>exact ⟨(0),(x221001_31),(x221002_31),(([] : List Int)),(.slice none 0 0),(by first | rfl | (simp;done) | (simp [*];done)),H', ⟨Nat.le_refl _⟩,⟨by exact rZ_ HO_229001⟩,⟨by exact rZ_ HO_229002⟩,⟨by first | exact Kd.R_nil _ _ _ _ _ | exact Kd.N_nil _ _ _ _ _ | exact Kd.V_nil _ _ _ _ _ | exact Kd.Q_nil _ _ _ _ _ | exact Kd.S_nil _ _ _ _ _⟩,⟨by exact kZ_ BK219⟩,⟨by exact kZ_ BK228⟩,⟨by repeat first | exact J98.z HI220 | apply J98.set_1 | apply J98.set_2 | refine J98.y ?_⟩,⟨by have e0_:=aM_ (J98.ge HI220.out);exact bZ_ HB⟩⟩
       case round =>
        clear H'
        obtain ⟨x12_4,x221001_4,x221002_4,x229003_4,u229003,rfl,HA,HK4,HO_229001,HO_229002,HO_229003,BK219,BK228,HI220,HB⟩:=hrel
        cases gk with
        | zero=>exact absurd HA.out (by simp [spec_GetNode.l2])
        | succ k4 =>
         have H:=HA.out
         clear HA
         simp only [spec_GetNode.l2] at H
         by_cases c52 : x12_4 ≤ t224
         ·rw [if_pos c52] at H
          have c52b0 : decide (x12_4 ≤ t224) = true:=decide_eq_true c52
          clear c52
          by_cases c53 : x221002_4 = true
          ·subst c53
           have H1 : (some (false,([] : List ByteArray),([] : List ByteArray),([] : List Int),false)) = some (r1,r2,r3,r4,r5):=by rw [if_pos rfl] at H;exact H
           clear H
           have H:=H1
           clear H1
           simp only [Option.some.injEq,Prod.mk.injEq] at H
           obtain ⟨rfl,rfl,rfl,rfl,rfl⟩:=H
           obtain ⟨ASz54_0,cSz54_0,HGz54,hgz54,HSz54_0,HLnz54_0⟩:=HI220.out
           have hcz54_0:=cellS98_0 HGz54
           have hcz54_1:=cellS98_1 HGz54
           have hcz54_2:=cellS98_2 HGz54
           have hfz54_1:=kF_ HGz54 1
           have hfz54_2:=kF_ HGz54 2
           clear HGz54 hgz54
           have hnb55:=NB219_228.out
           have hnc55:=NB228_219.out
           have hnb56:=NB219_220.out
           have hnc56:=NB220_219.out
           have hcz57_0 : wr.cell? ⟨gb219,0,none⟩ = some (.bool false):=(kC_ BK219.out 0).trans rfl
           have hcz57_1 : wr.cell? ⟨gb219,1,none⟩ = some (.slice none 0 0):=(kC_ BK219.out 1).trans rfl
           have hcz57_2 : wr.cell? ⟨gb219,2,none⟩ = some (.slice none 0 0):=(kC_ BK219.out 2).trans rfl
           have hcz57_3 : wr.cell? ⟨gb219,3,none⟩ = some (.slice none 0 0):=(kC_ BK219.out 3).trans rfl
           have hfz57_0:=kF_ BK219.out 0
           have hfz57_1:=kF_ BK219.out 1
           have hfz57_2:=kF_ BK219.out 2
           have hfz57_3:=kF_ BK219.out 3
           go_wp2
           refine bodyPost_ret (results_ct rfl _ _ gb219 29 #[.bool false,.slice none 0 0,.slice none 0 0,.slice none 0 0] (0,0) _ rfl (by (with_reducible repeat (first | refine kN_ ?_ _ | refine kD_ ?_ | refine kA_ ?_ _));refine kP_ (cs:=#[.bool false,.slice none 0 0,.slice none 0 0,.slice none 0 0]) ?_ 3 _ rfl;(with_reducible repeat (first | refine kN_ ?_ _ | refine kD_ ?_ | refine kA_ ?_ _));refine kP_ (cs:=#[.bool false,.slice none 0 0,.slice none 0 0,.slice none 0 0]) ?_ 2 _ rfl;(with_reducible repeat (first | refine kN_ ?_ _ | refine kD_ ?_ | refine kA_ ?_ _));refine kP_ (cs:=#[.bool false,.slice none 0 0,.slice none 0 0,.slice none 0 0]) ?_ 1 _ rfl;(with_reducible repeat (first | refine kN_ ?_ _ | refine kD_ ?_ | refine kA_ ?_ _));refine kP_ (cs:=#[.bool false,.slice none 0 0,.slice none 0 0,.slice none 0 0]) ?_ 0 _ rfl;exact kZ_ BK219) Try.underlying29 rfl (by kernel_rfl)) rfl ?_
           exact ⟨_,_,_,by first | rfl | (simp [errW_none,errW_some] <;> rfl) | (simp [*, errW_none,errW_some] <;> rfl),by first | exact Kd.R_nil _ _ _ _ _ | exact Kd.N_nil _ _ _ _ _ | exact Kd.V_nil _ _ _ _ _ | exact Kd.Q_nil _ _ _ _ _ | exact Kd.S_nil _ _ _ _ _,by first | exact Kd.R_nil _ _ _ _ _ | exact Kd.N_nil _ _ _ _ _ | exact Kd.V_nil _ _ _ _ _ | exact Kd.Q_nil _ _ _ _ _ | exact Kd.S_nil _ _ _ _ _,by first | exact Kd.R_nil _ _ _ _ _ | exact Kd.N_nil _ _ _ _ _ | exact Kd.V_nil _ _ _ _ _ | exact Kd.Q_nil _ _ _ _ _ | exact Kd.S_nil _ _ _ _ _,by have e0_:=aM_ (J98.ge HI220.out);exact bZ_ HB⟩
          ·replace c53:=Bool.eq_false_iff.mpr c53
           subst c53
           have H1 : (if y227 = true then (if x221001_4 = (l0.length : Int) then ((spec_NodeOk.f k4 y227 x229001_13 x229002_31 x229003_4).bind fun t241=>(if t241 = true then (some (y227,x229001_13,x229002_31,x229003_4,true)) else (some (false,([] : List ByteArray),([] : List ByteArray),([] : List Int),false)))) else (some (false,([] : List ByteArray),([] : List ByteArray),([] : List Int),false))) else ((spec_l14Num.f k4 l0 x221001_4 false).bind fun bt242=>(if x229003_4.length < 17592186044416 then (spec_GetNode.l2 k4 l0 t224 (wrap64 (x12_4 + 1)) l0 bt242.2.1 bt242.2.2 y227 x229001_13 x229002_31 (x229003_4 ++ [bt242.1])) else (none)))) = some (r1,r2,r3,r4,r5):=by rw [if_neg (show ¬ (false = true) by decide)] at H;exact H
           clear H
           have H:=H1
           clear H1
           by_cases c58 : y227 = true
           ·subst c58
            have H1 : (if x221001_4 = (l0.length : Int) then ((spec_NodeOk.f k4 true x229001_13 x229002_31 x229003_4).bind fun t241=>(if t241 = true then (some (true,x229001_13,x229002_31,x229003_4,true)) else (some (false,([] : List ByteArray),([] : List ByteArray),([] : List Int),false)))) else (some (false,([] : List ByteArray),([] : List ByteArray),([] : List Int),false))) = some (r1,r2,r3,r4,r5):=by rw [if_pos rfl] at H;exact H
            clear H
            have H:=H1
            clear H1
            by_cases c59 : x221001_4 = (l0.length : Int)
            ·rw [if_pos c59] at H
             have c59b0 : (x221001_4 == (l0.length : Int)) = true:=beq_iff_eq.mpr c59
             have c59b1 : (x221001_4 != (l0.length : Int)) = false:=bne_eq_false_iff_eq.mpr c59
             clear c59
             replace H:=oB_ H
             obtain ⟨t241,A600,H⟩:=H
             replace H : (if t241 = true then (some (true,x229001_13,x229002_31,x229003_4,true)) else (some (false,([] : List ByteArray),([] : List ByteArray),([] : List Int),false))) = some (r1,r2,r3,r4,r5):=H
             have A60:=aM_ A600
             clear A600
             by_cases c61 : t241 = true
             ·subst c61
              have H1 : (some (true,x229001_13,x229002_31,x229003_4,true)) = some (r1,r2,r3,r4,r5):=by rw [if_pos rfl] at H;exact H
              clear H
              have H:=H1
              clear H1
              simp only [Option.some.injEq,Prod.mk.injEq] at H
              obtain ⟨rfl,rfl,rfl,rfl,rfl⟩:=H
              obtain ⟨ASz62_0,cSz62_0,HGz62,hgz62,HSz62_0,HLnz62_0⟩:=HI220.out
              have hcz62_0:=cellS98_0 HGz62
              have hcz62_1:=cellS98_1 HGz62
              have hcz62_2:=cellS98_2 HGz62
              have hfz62_1:=kF_ HGz62 1
              have hfz62_2:=kF_ HGz62 2
              clear HGz62 hgz62
              have hnb63:=NB228_219.out
              have hnc63:=NB219_228.out
              have hnb64:=NB228_220.out
              have hnc64:=NB220_228.out
              have hcz65_0 : wr.cell? ⟨gb228,0,none⟩ = some (.bool true):=(kC_ BK228.out 0).trans rfl
              have hcz65_1 : wr.cell? ⟨gb228,1,none⟩ = some (u229001):=(kC_ BK228.out 1).trans rfl
              have hcz65_2 : wr.cell? ⟨gb228,2,none⟩ = some (u229002):=(kC_ BK228.out 2).trans rfl
              have hcz65_3 : wr.cell? ⟨gb228,3,none⟩ = some (u229003):=(kC_ BK228.out 3).trans rfl
              have hfz65_0:=kF_ BK228.out 0
              have hfz65_1:=kF_ BK228.out 1
              have hfz65_2:=kF_ BK228.out 2
              have hfz65_3:=kF_ BK228.out 3
              obtain ⟨Ao66,co66,eo66⟩:=Kd.R_slice HO_229001.out
              subst eo66
              obtain ⟨Ao67,co67,eo67⟩:=Kd.R_slice HO_229002.out
              subst eo67
              obtain ⟨Ao68,co68,eo68⟩:=Kd.R_slice HO_229003.out
              subst eo68
              go_wp2_with (first | (go_at_call 32;(with_reducible refine (spec_NodeOk.calls k4 true _ _ x229001_13 _ _ x229002_31 _ _ x229003_4 true _ ?side1 ?side2 ?side3 ?side4 ?side5 ?side6 A60.out).mono ?_);(case side1=>repeat (first | exact (Kd.R_reads' HO_229001.out).2.2 | (with_reducible refine cA_ ?_ _) | (with_reducible refine cN_ ?_ _) | (with_reducible refine cD_ ?_)));(case side2=>exact (Kd.R_reads' HO_229001.out).2.1);(case side3=>repeat (first | exact (Kd.R_reads' HO_229002.out).2.2 | (with_reducible refine cA_ ?_ _) | (with_reducible refine cN_ ?_ _) | (with_reducible refine cD_ ?_)));(case side4=>exact (Kd.R_reads' HO_229002.out).2.1);(case side5=>repeat (first | exact (Kd.R_reads' HO_229003.out).2.2 | (with_reducible refine cA_ ?_ _) | (with_reducible refine cN_ ?_ _) | (with_reducible refine cD_ ?_)));(case side6=>exact (Kd.R_reads' HO_229003.out).2.1);rintro e w69 ⟨rfl,hb⟩;have n0_:=aM_ (Kd.R_below (by exact rZ_ HO_229001) hb);have n1_:=aM_ (Kd.R_below (by exact rZ_ HO_229002) hb);have n2_:=aM_ (Kd.R_below (by exact rZ_ HO_229003) hb);have n3_:=aM_ (blk_below (g:=gb219) (o:=.cells #[.bool false,.slice none 0 0,.slice none 0 0,.slice none 0 0] 29 (0,0)) (by exact kZ_ BK219) hb);have n4_:=aM_ (blk_below (g:=gb228) (o:=.cells #[.bool true,.slice Ao66 x229001_13.length co66,.slice Ao67 x229002_31.length co67,.slice Ao68 x229003_4.length co68] 29 (0,0)) (by exact kZ_ BK228) hb);have n5_:=aM_ (J98.below (by repeat first | exact J98.z HI220 | apply J98.set_1 | apply J98.set_2 | refine J98.y ?_) hb);have n6_:=aM_ (bT_ (by have e0_:=aM_ (J98.ge HI220.out);exact bZ_ HB) hb);clear HO_229001 HO_229002 HO_229003 BK219 BK228 HI220 HB;have HO_229001:=n0_;have HO_229002:=n1_;have HO_229003:=n2_;have BK219:=n3_;have BK228:=n4_;have HI220:=n5_;have HB:=n6_;clear n0_ n1_ n2_ n3_ n4_ n5_ n6_ hb;have hcz70_0 : w69.cell? ⟨gb228,0,none⟩ = some (.bool true):=(kC_ BK228.out 0).trans rfl;have hcz70_1 : w69.cell? ⟨gb228,1,none⟩ = some (.slice Ao66 x229001_13.length co66):=(kC_ BK228.out 1).trans rfl;have hcz70_2 : w69.cell? ⟨gb228,2,none⟩ = some (.slice Ao67 x229002_31.length co67):=(kC_ BK228.out 2).trans rfl;have hcz70_3 : w69.cell? ⟨gb228,3,none⟩ = some (.slice Ao68 x229003_4.length co68):=(kC_ BK228.out 3).trans rfl;have hfz70_0:=kF_ BK228.out 0;have hfz70_1:=kF_ BK228.out 1;have hfz70_2:=kF_ BK228.out 2;have hfz70_3:=kF_ BK228.out 3;have hnb71:=NB219_220.out;have hnc71:=NB220_219.out;have hcz72_0 : w69.cell? ⟨gb219,0,none⟩ = some (.bool false):=(kC_ BK219.out 0).trans rfl;have hcz72_1 : w69.cell? ⟨gb219,1,none⟩ = some (.slice none 0 0):=(kC_ BK219.out 1).trans rfl;have hcz72_2 : w69.cell? ⟨gb219,2,none⟩ = some (.slice none 0 0):=(kC_ BK219.out 2).trans rfl;have hcz72_3 : w69.cell? ⟨gb219,3,none⟩ = some (.slice none 0 0):=(kC_ BK219.out 3).trans rfl;have hfz72_0:=kF_ BK219.out 0;have hfz72_1:=kF_ BK219.out 1;have hfz72_2:=kF_ BK219.out 2;have hfz72_3:=kF_ BK219.out 3))
              refine bodyPost_ret (results_ct rfl _ _ gb219 29 #[.bool true,.slice Ao66 x229001_13.length co66,.slice Ao67 x229002_31.length co67,.slice Ao68 x229003_4.length co68] (0,0) _ rfl (by (with_reducible repeat (first | refine kN_ ?_ _ | refine kD_ ?_ | refine kA_ ?_ _));refine kP_ (cs:=#[.bool true,.slice Ao66 x229001_13.length co66,.slice Ao67 x229002_31.length co67,.slice none 0 0]) ?_ 3 _ rfl;(with_reducible repeat (first | refine kN_ ?_ _ | refine kD_ ?_ | refine kA_ ?_ _));refine kP_ (cs:=#[.bool true,.slice Ao66 x229001_13.length co66,.slice none 0 0,.slice none 0 0]) ?_ 2 _ rfl;(with_reducible repeat (first | refine kN_ ?_ _ | refine kD_ ?_ | refine kA_ ?_ _));refine kP_ (cs:=#[.bool true,.slice none 0 0,.slice none 0 0,.slice none 0 0]) ?_ 1 _ rfl;(with_reducible repeat (first | refine kN_ ?_ _ | refine kD_ ?_ | refine kA_ ?_ _));refine kP_ (cs:=#[.bool false,.slice none 0 0,.slice none 0 0,.slice none 0 0]) ?_ 0 _ rfl;exact kZ_ BK219) Try.underlying29 rfl (by kernel_rfl)) rfl ?_
              exact ⟨_,_,_,by first | rfl | (simp [errW_none,errW_some] <;> rfl) | (simp [*, errW_none,errW_some] <;> rfl),by (with_reducible repeat (first | apply rA_ | apply rN_ | apply rD_));exact Kd.R_mono (Kd.R_far (p:=⟨gb219,3,none⟩) (Kd.R_far (p:=⟨gb219,2,none⟩) (Kd.R_far (p:=⟨gb219,1,none⟩) (Kd.R_far (p:=⟨gb219,0,none⟩) (Kd.R_types HO_229001.out BK219.out (by decide)) (fun _ hk=>hk.2) (.bool true)) (fun _ hk=>hk.2) (.slice Ao66 x229001_13.length co66)) (fun _ hk=>hk.2) (.slice Ao67 x229002_31.length co67)) (fun _ hk=>hk.2) (.slice Ao68 x229003_4.length co68)) (fun _ hk=>hk.1),by (with_reducible repeat (first | apply rA_ | apply rN_ | apply rD_));exact Kd.R_mono (Kd.R_far (p:=⟨gb219,3,none⟩) (Kd.R_far (p:=⟨gb219,2,none⟩) (Kd.R_far (p:=⟨gb219,1,none⟩) (Kd.R_far (p:=⟨gb219,0,none⟩) (Kd.R_types HO_229002.out BK219.out (by decide)) (fun _ hk=>hk.2) (.bool true)) (fun _ hk=>hk.2) (.slice Ao66 x229001_13.length co66)) (fun _ hk=>hk.2) (.slice Ao67 x229002_31.length co67)) (fun _ hk=>hk.2) (.slice Ao68 x229003_4.length co68)) (fun _ hk=>hk.1),by (with_reducible repeat (first | apply rA_ | apply rN_ | apply rD_));exact Kd.R_mono (Kd.R_far (p:=⟨gb219,3,none⟩) (Kd.R_far (p:=⟨gb219,2,none⟩) (Kd.R_far (p:=⟨gb219,1,none⟩) (Kd.R_far (p:=⟨gb219,0,none⟩) (Kd.R_types HO_229003.out BK219.out (by decide)) (fun _ hk=>hk.2) (.bool true)) (fun _ hk=>hk.2) (.slice Ao66 x229001_13.length co66)) (fun _ hk=>hk.2) (.slice Ao67 x229002_31.length co67)) (fun _ hk=>hk.2) (.slice Ao68 x229003_4.length co68)) (fun _ hk=>trivial),by have e0_:=aM_ (J98.ge HI220.out);exact bZ_ HB⟩
             ·replace c61:=Bool.eq_false_iff.mpr c61
              subst c61
              have H1 : (some (false,([] : List ByteArray),([] : List ByteArray),([] : List Int),false)) = some (r1,r2,r3,r4,r5):=by rw [if_neg (show ¬ (false = true) by decide)] at H;exact H
              clear H
              have H:=H1
              clear H1
              simp only [Option.some.injEq,Prod.mk.injEq] at H
              obtain ⟨rfl,rfl,rfl,rfl,rfl⟩:=H
              obtain ⟨ASz73_0,cSz73_0,HGz73,hgz73,HSz73_0,HLnz73_0⟩:=HI220.out
              have hcz73_0:=cellS98_0 HGz73
              have hcz73_1:=cellS98_1 HGz73
              have hcz73_2:=cellS98_2 HGz73
              have hfz73_1:=kF_ HGz73 1
              have hfz73_2:=kF_ HGz73 2
              clear HGz73 hgz73
              have hnb74:=NB228_219.out
              have hnc74:=NB219_228.out
              have hnb75:=NB228_220.out
              have hnc75:=NB220_228.out
              have hcz76_0 : wr.cell? ⟨gb228,0,none⟩ = some (.bool true):=(kC_ BK228.out 0).trans rfl
              have hcz76_1 : wr.cell? ⟨gb228,1,none⟩ = some (u229001):=(kC_ BK228.out 1).trans rfl
              have hcz76_2 : wr.cell? ⟨gb228,2,none⟩ = some (u229002):=(kC_ BK228.out 2).trans rfl
              have hcz76_3 : wr.cell? ⟨gb228,3,none⟩ = some (u229003):=(kC_ BK228.out 3).trans rfl
              have hfz76_0:=kF_ BK228.out 0
              have hfz76_1:=kF_ BK228.out 1
              have hfz76_2:=kF_ BK228.out 2
              have hfz76_3:=kF_ BK228.out 3
              obtain ⟨Ao77,co77,eo77⟩:=Kd.R_slice HO_229001.out
              subst eo77
              obtain ⟨Ao78,co78,eo78⟩:=Kd.R_slice HO_229002.out
              subst eo78
              obtain ⟨Ao79,co79,eo79⟩:=Kd.R_slice HO_229003.out
              subst eo79
              go_wp2_with (first | (go_at_call 32;(with_reducible refine (spec_NodeOk.calls k4 true _ _ x229001_13 _ _ x229002_31 _ _ x229003_4 false _ ?side1 ?side2 ?side3 ?side4 ?side5 ?side6 A60.out).mono ?_);(case side1=>repeat (first | exact (Kd.R_reads' HO_229001.out).2.2 | (with_reducible refine cA_ ?_ _) | (with_reducible refine cN_ ?_ _) | (with_reducible refine cD_ ?_)));(case side2=>exact (Kd.R_reads' HO_229001.out).2.1);(case side3=>repeat (first | exact (Kd.R_reads' HO_229002.out).2.2 | (with_reducible refine cA_ ?_ _) | (with_reducible refine cN_ ?_ _) | (with_reducible refine cD_ ?_)));(case side4=>exact (Kd.R_reads' HO_229002.out).2.1);(case side5=>repeat (first | exact (Kd.R_reads' HO_229003.out).2.2 | (with_reducible refine cA_ ?_ _) | (with_reducible refine cN_ ?_ _) | (with_reducible refine cD_ ?_)));(case side6=>exact (Kd.R_reads' HO_229003.out).2.1);rintro e w80 ⟨rfl,hb⟩;have n0_:=aM_ (Kd.R_below (by exact rZ_ HO_229001) hb);have n1_:=aM_ (Kd.R_below (by exact rZ_ HO_229002) hb);have n2_:=aM_ (Kd.R_below (by exact rZ_ HO_229003) hb);have n3_:=aM_ (blk_below (g:=gb219) (o:=.cells #[.bool false,.slice none 0 0,.slice none 0 0,.slice none 0 0] 29 (0,0)) (by exact kZ_ BK219) hb);have n4_:=aM_ (blk_below (g:=gb228) (o:=.cells #[.bool true,.slice Ao77 x229001_13.length co77,.slice Ao78 x229002_31.length co78,.slice Ao79 x229003_4.length co79] 29 (0,0)) (by exact kZ_ BK228) hb);have n5_:=aM_ (J98.below (by repeat first | exact J98.z HI220 | apply J98.set_1 | apply J98.set_2 | refine J98.y ?_) hb);have n6_:=aM_ (bT_ (by have e0_:=aM_ (J98.ge HI220.out);exact bZ_ HB) hb);clear HO_229001 HO_229002 HO_229003 BK219 BK228 HI220 HB;have HO_229001:=n0_;have HO_229002:=n1_;have HO_229003:=n2_;have BK219:=n3_;have BK228:=n4_;have HI220:=n5_;have HB:=n6_;clear n0_ n1_ n2_ n3_ n4_ n5_ n6_ hb;have hnb81:=NB219_220.out;have hnc81:=NB220_219.out;have hcz82_0 : w80.cell? ⟨gb219,0,none⟩ = some (.bool false):=(kC_ BK219.out 0).trans rfl;have hcz82_1 : w80.cell? ⟨gb219,1,none⟩ = some (.slice none 0 0):=(kC_ BK219.out 1).trans rfl;have hcz82_2 : w80.cell? ⟨gb219,2,none⟩ = some (.slice none 0 0):=(kC_ BK219.out 2).trans rfl;have hcz82_3 : w80.cell? ⟨gb219,3,none⟩ = some (.slice none 0 0):=(kC_ BK219.out 3).trans rfl;have hfz82_0:=kF_ BK219.out 0;have hfz82_1:=kF_ BK219.out 1;have hfz82_2:=kF_ BK219.out 2;have hfz82_3:=kF_ BK219.out 3))
              refine bodyPost_ret (results_ct rfl _ _ gb219 29 #[.bool false,.slice none 0 0,.slice none 0 0,.slice none 0 0] (0,0) _ rfl (by (with_reducible repeat (first | refine kN_ ?_ _ | refine kD_ ?_ | refine kA_ ?_ _));refine kP_ (cs:=#[.bool false,.slice none 0 0,.slice none 0 0,.slice none 0 0]) ?_ 3 _ rfl;(with_reducible repeat (first | refine kN_ ?_ _ | refine kD_ ?_ | refine kA_ ?_ _));refine kP_ (cs:=#[.bool false,.slice none 0 0,.slice none 0 0,.slice none 0 0]) ?_ 2 _ rfl;(with_reducible repeat (first | refine kN_ ?_ _ | refine kD_ ?_ | refine kA_ ?_ _));refine kP_ (cs:=#[.bool false,.slice none 0 0,.slice none 0 0,.slice none 0 0]) ?_ 1 _ rfl;(with_reducible repeat (first | refine kN_ ?_ _ | refine kD_ ?_ | refine kA_ ?_ _));refine kP_ (cs:=#[.bool false,.slice none 0 0,.slice none 0 0,.slice none 0 0]) ?_ 0 _ rfl;exact kZ_ BK219) Try.underlying29 rfl (by kernel_rfl)) rfl ?_
              exact ⟨_,_,_,by first | rfl | (simp [errW_none,errW_some] <;> rfl) | (simp [*, errW_none,errW_some] <;> rfl),by first | exact Kd.R_nil _ _ _ _ _ | exact Kd.N_nil _ _ _ _ _ | exact Kd.V_nil _ _ _ _ _ | exact Kd.Q_nil _ _ _ _ _ | exact Kd.S_nil _ _ _ _ _,by first | exact Kd.R_nil _ _ _ _ _ | exact Kd.N_nil _ _ _ _ _ | exact Kd.V_nil _ _ _ _ _ | exact Kd.Q_nil _ _ _ _ _ | exact Kd.S_nil _ _ _ _ _,by first | exact Kd.R_nil _ _ _ _ _ | exact Kd.N_nil _ _ _ _ _ | exact Kd.V_nil _ _ _ _ _ | exact Kd.Q_nil _ _ _ _ _ | exact Kd.S_nil _ _ _ _ _,by have e0_:=aM_ (J98.ge HI220.out);exact bZ_ HB⟩
            ·rw [if_neg c59] at H
             have c59b0 : (x221001_4 == (l0.length : Int)) = false:=beq_eq_false_iff_ne.mpr c59
             have c59b1 : (x221001_4 != (l0.length : Int)) = true:=bne_iff_ne.mpr c59
             simp only [Option.some.injEq,Prod.mk.injEq] at H
             obtain ⟨rfl,rfl,rfl,rfl,rfl⟩:=H
             obtain ⟨ASz83_0,cSz83_0,HGz83,hgz83,HSz83_0,HLnz83_0⟩:=HI220.out
             have hcz83_0:=cellS98_0 HGz83
             have hcz83_1:=cellS98_1 HGz83
             have hcz83_2:=cellS98_2 HGz83
             have hfz83_1:=kF_ HGz83 1
             have hfz83_2:=kF_ HGz83 2
             clear HGz83 hgz83
             have hnb84:=NB228_219.out
             have hnc84:=NB219_228.out
             have hnb85:=NB228_220.out
             have hnc85:=NB220_228.out
             have hcz86_0 : wr.cell? ⟨gb228,0,none⟩ = some (.bool true):=(kC_ BK228.out 0).trans rfl
             have hcz86_1 : wr.cell? ⟨gb228,1,none⟩ = some (u229001):=(kC_ BK228.out 1).trans rfl
             have hcz86_2 : wr.cell? ⟨gb228,2,none⟩ = some (u229002):=(kC_ BK228.out 2).trans rfl
             have hcz86_3 : wr.cell? ⟨gb228,3,none⟩ = some (u229003):=(kC_ BK228.out 3).trans rfl
             have hfz86_0:=kF_ BK228.out 0
             have hfz86_1:=kF_ BK228.out 1
             have hfz86_2:=kF_ BK228.out 2
             have hfz86_3:=kF_ BK228.out 3
             have hnb87:=NB219_220.out
             have hnc87:=NB220_219.out
             have hcz88_0 : wr.cell? ⟨gb219,0,none⟩ = some (.bool false):=(kC_ BK219.out 0).trans rfl
             have hcz88_1 : wr.cell? ⟨gb219,1,none⟩ = some (.slice none 0 0):=(kC_ BK219.out 1).trans rfl
             have hcz88_2 : wr.cell? ⟨gb219,2,none⟩ = some (.slice none 0 0):=(kC_ BK219.out 2).trans rfl
             have hcz88_3 : wr.cell? ⟨gb219,3,none⟩ = some (.slice none 0 0):=(kC_ BK219.out 3).trans rfl
             have hfz88_0:=kF_ BK219.out 0
             have hfz88_1:=kF_ BK219.out 1
             have hfz88_2:=kF_ BK219.out 2
             have hfz88_3:=kF_ BK219.out 3
             go_wp2
             refine bodyPost_ret (results_ct rfl _ _ gb219 29 #[.bool false,.slice none 0 0,.slice none 0 0,.slice none 0 0] (0,0) _ rfl (by (with_reducible repeat (first | refine kN_ ?_ _ | refine kD_ ?_ | refine kA_ ?_ _));refine kP_ (cs:=#[.bool false,.slice none 0 0,.slice none 0 0,.slice none 0 0]) ?_ 3 _ rfl;(with_reducible repeat (first | refine kN_ ?_ _ | refine kD_ ?_ | refine kA_ ?_ _));refine kP_ (cs:=#[.bool false,.slice none 0 0,.slice none 0 0,.slice none 0 0]) ?_ 2 _ rfl;(with_reducible repeat (first | refine kN_ ?_ _ | refine kD_ ?_ | refine kA_ ?_ _));refine kP_ (cs:=#[.bool false,.slice none 0 0,.slice none 0 0,.slice none 0 0]) ?_ 1 _ rfl;(with_reducible repeat (first | refine kN_ ?_ _ | refine kD_ ?_ | refine kA_ ?_ _));refine kP_ (cs:=#[.bool false,.slice none 0 0,.slice none 0 0,.slice none 0 0]) ?_ 0 _ rfl;exact kZ_ BK219) Try.underlying29 rfl (by kernel_rfl)) rfl ?_
             exact ⟨_,_,_,by first | rfl | (simp [errW_none,errW_some] <;> rfl) | (simp [*, errW_none,errW_some] <;> rfl),by first | exact Kd.R_nil _ _ _ _ _ | exact Kd.N_nil _ _ _ _ _ | exact Kd.V_nil _ _ _ _ _ | exact Kd.Q_nil _ _ _ _ _ | exact Kd.S_nil _ _ _ _ _,by first | exact Kd.R_nil _ _ _ _ _ | exact Kd.N_nil _ _ _ _ _ | exact Kd.V_nil _ _ _ _ _ | exact Kd.Q_nil _ _ _ _ _ | exact Kd.S_nil _ _ _ _ _,by first | exact Kd.R_nil _ _ _ _ _ | exact Kd.N_nil _ _ _ _ _ | exact Kd.V_nil _ _ _ _ _ | exact Kd.Q_nil _ _ _ _ _ | exact Kd.S_nil _ _ _ _ _,by have e0_:=aM_ (J98.ge HI220.out);exact bZ_ HB⟩
           ·replace c58:=Bool.eq_false_iff.mpr c58
            subst c58
            have H1 : ((spec_l14Num.f k4 l0 x221001_4 false).bind fun bt242=>(if x229003_4.length < 17592186044416 then (spec_GetNode.l2 k4 l0 t224 (wrap64 (x12_4 + 1)) l0 bt242.2.1 bt242.2.2 false x229001_13 x229002_31 (x229003_4 ++ [bt242.1])) else (none))) = some (r1,r2,r3,r4,r5):=by rw [if_neg (show ¬ (false = true) by decide)] at H;exact H
            clear H
            have H:=H1
            clear H1
            replace H:=oB_ H
            obtain ⟨⟨t242,t243,t244⟩,A890,H⟩:=H
            replace H : (if x229003_4.length < 17592186044416 then (spec_GetNode.l2 k4 l0 t224 (wrap64 (x12_4 + 1)) l0 t243 t244 false x229001_13 x229002_31 (x229003_4 ++ [t242])) else (none)) = some (r1,r2,r3,r4,r5):=H
            have A89:=aM_ A890
            clear A890
            by_cases c90 : x229003_4.length < 17592186044416
            ·rw [if_pos c90] at H
             have LMc90:=aM_ c90
             clear c90
             obtain ⟨y245,hy245⟩ : ∃ y_ : List Int,y_ = (x229003_4 ++ [t242]):=⟨_,rfl⟩
             replace H : (spec_GetNode.l2 k4 l0 t224 (wrap64 (x12_4 + 1)) l0 t243 t244 false x229001_13 x229002_31 y245) = some (r1,r2,r3,r4,r5):=by first | (rw [hy245];with_reducible exact H) | (have H2_:=(Option.bind_some _ _).symm.trans H;rw [hy245];with_reducible exact H2_) | (have H2_:=(Option.bind_some _ _).symm.trans H;with_reducible exact H2_) | with_reducible exact H | (rw [hy245];exact H) | exact H
             have Ny245:=aM_ hy245
             clear hy245
             have H':=aM_ H
             clear H
             obtain ⟨ASz91_0,cSz91_0,HGz91,hgz91,HSz91_0,HLnz91_0⟩:=HI220.out
             have hcz91_0:=cellS98_0 HGz91
             have hcz91_1:=cellS98_1 HGz91
             have hcz91_2:=cellS98_2 HGz91
             have hfz91_1:=kF_ HGz91 1
             have hfz91_2:=kF_ HGz91 2
             clear HGz91 hgz91
             have hnb92:=NB228_219.out
             have hnc92:=NB219_228.out
             have hnb93:=NB228_220.out
             have hnc93:=NB220_228.out
             have hcz94_0 : wr.cell? ⟨gb228,0,none⟩ = some (.bool false):=(kC_ BK228.out 0).trans rfl
             have hcz94_1 : wr.cell? ⟨gb228,1,none⟩ = some (u229001):=(kC_ BK228.out 1).trans rfl
             have hcz94_2 : wr.cell? ⟨gb228,2,none⟩ = some (u229002):=(kC_ BK228.out 2).trans rfl
             have hcz94_3 : wr.cell? ⟨gb228,3,none⟩ = some (u229003):=(kC_ BK228.out 3).trans rfl
             have hfz94_0:=kF_ BK228.out 0
             have hfz94_1:=kF_ BK228.out 1
             have hfz94_2:=kF_ BK228.out 2
             have hfz94_3:=kF_ BK228.out 3
             go_wp2_with (first | ((with_reducible refine gate_callee (f:=76) rfl ?_);refine goesL_ (some 103) rfl rfl Try.func76 (by kernel_rfl) rfl #[.pointer (some ⟨gb220,0,none⟩)] rfl (by (try simp only [mA_,mC_,mN_]);first | done | rfl | (simp only [lD_,lT_];rfl)) ?_;(with_reducible refine (spec_l14Num.calls k4 gb220 l0 x221001_4 false t242 t243 t244 w _ ?side1 ?side2 A89.out).mono ?_);(case side1=>repeat first | exact J98.z HI220 | apply J98.set_1 | apply J98.set_2 | refine J98.y ?_);(case side2=>have e0_:=aM_ (J98.ge HI220.out);exact bZ_ HB);rintro e w95 ⟨rfl,hi,hb,hk⟩;refine ⟨_,rfl,?_⟩;have n0_:=aM_ (Kd.R_mono (Kd.R_keep (J98.apart (show J98 w _ gb220 l0 x221001_4 false from by repeat first | exact J98.z HI220 | apply J98.set_1 | apply J98.set_2 | refine J98.y ?_) (by exact rZ_ HO_229001) (by decide)) hk (fun _ h=>h.2)) (fun _ h=>h.1));have n1_:=aM_ (Kd.R_mono (Kd.R_keep (J98.apart (show J98 w _ gb220 l0 x221001_4 false from by repeat first | exact J98.z HI220 | apply J98.set_1 | apply J98.set_2 | refine J98.y ?_) (by exact rZ_ HO_229002) (by decide)) hk (fun _ h=>h.2)) (fun _ h=>h.1));have n2_:=aM_ (Kd.R_mono (Kd.R_keep (J98.apart (show J98 w _ gb220 l0 x221001_4 false from by repeat first | exact J98.z HI220 | apply J98.set_1 | apply J98.set_2 | refine J98.y ?_) (by exact rZ_ HO_229003) (by decide)) hk (fun _ h=>h.2)) (fun _ h=>h.1));have n3_:=aM_ (KeepBut.blk hk (g':=gb219) (o:=.cells #[.bool false,.slice none 0 0,.slice none 0 0,.slice none 0 0] 29 (0,0)) (by exact kZ_ BK219) NB219_220.out (by simp));have n4_:=aM_ (KeepBut.blk hk (g':=gb228) (o:=.cells #[.bool false,u229001,u229002,u229003] 29 (0,0)) (by exact kZ_ BK228) NB228_220.out (by simp));have n5_:=aM_ (hb);have n6_:=aM_ (hi);clear HO_229001 HO_229002 HO_229003 BK219 BK228 HB HI220;have HO_229001:=n0_;have HO_229002:=n1_;have HO_229003:=n2_;have BK219:=n3_;have BK228:=n4_;have HB:=n5_;have HI220:=n6_;clear n0_ n1_ n2_ n3_ n4_ n5_ n6_ hb hk hi;have hcz96_0 : w95.cell? ⟨gb228,0,none⟩ = some (.bool false):=(kC_ BK228.out 0).trans rfl;have hcz96_1 : w95.cell? ⟨gb228,1,none⟩ = some (u229001):=(kC_ BK228.out 1).trans rfl;have hcz96_2 : w95.cell? ⟨gb228,2,none⟩ = some (u229002):=(kC_ BK228.out 2).trans rfl;have hcz96_3 : w95.cell? ⟨gb228,3,none⟩ = some (u229003):=(kC_ BK228.out 3).trans rfl;have hfz96_0:=kF_ BK228.out 0;have hfz96_1:=kF_ BK228.out 1;have hfz96_2:=kF_ BK228.out 2;have hfz96_3:=kF_ BK228.out 3) | ((with_reducible refine gate_builtin (b:=.append) (xs:=#[.tmp 105,.tmp 107]) rfl ?_);(try (refine gate_guard (by rfl) ?_;dsimp only));at_builtin;refine Kd.R_append (Kd.int .i64) (w0:=w) w.heap.size rfl (.tmp 105) (.tmp 107) 23 3 (.int .i64 0) 8 rfl Try.underlying23 info3 rfl (by decide) (by omega) u229003 x229003_4 t242 [.int .i64 t242] (fun _=>True) (fun _=>False) rfl rfl ?aP (fun _ hk=>hk.elim) ?aF ?aO ?aB ?aS ?aL ?_;(case aP=>exact rfl);(case aB=>exact (by have e0_:=aM_ (J98.ge HI220.out);exact bZ_ HB));(case aF=>exact (fun _ _=>trivial));(case aO=>exact (by exact rZ_ HO_229003));(case aS=>exact (bS_ (by have e0_:=aM_ (J98.ge HI220.out);exact bZ_ HB)));(case aL=>have:=LMc90.out;omega);intro v246 w97 ho hb hg hat;rw [← Ny245.out] at ho;have n0_:=aM_ (Kd.R_over' (by exact rZ_ HO_229001) (Kd.R_typed (by exact rZ_ HO_229003)) (by decide) hg);have n1_:=aM_ (Kd.R_over' (by exact rZ_ HO_229002) (Kd.R_typed (by exact rZ_ HO_229003)) (by decide) hg);have n2_:=aM_ (blk_grown (g:=gb219) (o:=.cells #[.bool false,.slice none 0 0,.slice none 0 0,.slice none 0 0] 29 (0,0)) (by exact kZ_ BK219) hg (Kd.R_ne HO_229003.out BK219.out (by decide)));have n3_:=aM_ (blk_grown (g:=gb228) (o:=.cells #[.bool false,u229001,u229002,u229003] 29 (0,0)) (by exact kZ_ BK228) hg (Kd.R_ne HO_229003.out BK228.out (by decide)));have n4_:=aM_ (J98.grown (by repeat first | exact J98.z HI220 | apply J98.set_1 | apply J98.set_2 | refine J98.y ?_) hg (J98.own_ne HI220.out HO_229003.out (by decide)));have n5_:=aM_ (hb);have n6_:=aM_ (ho);clear HO_229001 HO_229002 BK219 BK228 HI220 HB HO_229003;have HO_229001:=n0_;have HO_229002:=n1_;have BK219:=n2_;have BK228:=n3_;have HI220:=n4_;have HB:=n5_;have HO247:=n6_;clear n0_ n1_ n2_ n3_ n4_ n5_ n6_ ho hb hg hat;obtain ⟨Ao98,co98,eo98⟩:=Kd.R_slice HO247.out;subst eo98;have hcz99_0 : w97.cell? ⟨gb228,0,none⟩ = some (.bool false):=(kC_ BK228.out 0).trans rfl;have hcz99_1 : w97.cell? ⟨gb228,1,none⟩ = some (u229001):=(kC_ BK228.out 1).trans rfl;have hcz99_2 : w97.cell? ⟨gb228,2,none⟩ = some (u229002):=(kC_ BK228.out 2).trans rfl;have hcz99_3 : w97.cell? ⟨gb228,3,none⟩ = some (u229003):=(kC_ BK228.out 3).trans rfl;have hfz99_0:=kF_ BK228.out 0;have hfz99_1:=kF_ BK228.out 1;have hfz99_2:=kF_ BK228.out 2;have hfz99_3:=kF_ BK228.out 3))
             go_roundg k4
             case measure=>have:=HJ3.out;have:=HJ13.out;have:=HJ31.out;have:=HK4.out;omega
             case rel=>exact ⟨(wrap64 (x12_4 + 1)),(t243),(t244),(y245),(.slice Ao98 y245.length co98),(by first | rfl | (simp;done) | (simp [*];done)),H', ⟨by have:=HJ3.out;have:=HJ13.out;have:=HJ31.out;have:=HK4.out;omega⟩,⟨by (with_reducible repeat (first | apply rA_ | apply rN_ | apply rD_));exact Kd.R_mono (Kd.R_far (p:=⟨gb228,3,none⟩) (Kd.R_types HO_229001.out BK228.out (by decide)) (fun _ hk=>hk.2) (.slice Ao98 y245.length co98)) (fun _ hk=>hk.1)⟩,⟨by (with_reducible repeat (first | apply rA_ | apply rN_ | apply rD_));exact Kd.R_mono (Kd.R_far (p:=⟨gb228,3,none⟩) (Kd.R_types HO_229002.out BK228.out (by decide)) (fun _ hk=>hk.2) (.slice Ao98 y245.length co98)) (fun _ hk=>hk.1)⟩,⟨by (with_reducible repeat (first | apply rA_ | apply rN_ | apply rD_));exact Kd.R_mono (Kd.R_far (p:=⟨gb228,3,none⟩) (Kd.R_types HO247.out BK228.out (by decide)) (fun _ hk=>hk.2) (.slice Ao98 y245.length co98)) (fun _ hk=>trivial)⟩,⟨by exact kW_ BK219⟩,⟨by (with_reducible repeat (first | refine kN_ ?_ _ | refine kD_ ?_ | refine kA_ ?_ _));refine kP_ (cs:=#[.bool false,u229001,u229002,u229003]) ?_ 3 _ rfl;exact kZ_ BK228⟩,⟨by repeat first | exact J98.z HI220 | apply J98.set_1 | apply J98.set_2 | refine J98.y ?_⟩,⟨by have e0_:=aM_ (J98.ge HI220.out);exact bZ_ HB⟩⟩
            ·rw [if_neg c90] at H
             exact absurd H (by simp)
         ·rw [if_neg c52] at H
          have c52b0 : decide (x12_4 ≤ t224) = false:=decide_eq_false c52
          clear c52
          by_cases c100 : x221002_4 = true
          ·subst c100
           have H1 : (some (false,([] : List ByteArray),([] : List ByteArray),([] : List Int),false)) = some (r1,r2,r3,r4,r5):=by rw [if_pos rfl] at H;exact H
           clear H
           have H:=H1
           clear H1
           simp only [Option.some.injEq,Prod.mk.injEq] at H
           obtain ⟨rfl,rfl,rfl,rfl,rfl⟩:=H
           obtain ⟨ASz101_0,cSz101_0,HGz101,hgz101,HSz101_0,HLnz101_0⟩:=HI220.out
           have hcz101_0:=cellS98_0 HGz101
           have hcz101_1:=cellS98_1 HGz101
           have hcz101_2:=cellS98_2 HGz101
           have hfz101_1:=kF_ HGz101 1
           have hfz101_2:=kF_ HGz101 2
           clear HGz101 hgz101
           have hnb102:=NB219_228.out
           have hnc102:=NB228_219.out
           have hnb103:=NB219_220.out
           have hnc103:=NB220_219.out
           have hcz104_0 : wr.cell? ⟨gb219,0,none⟩ = some (.bool false):=(kC_ BK219.out 0).trans rfl
           have hcz104_1 : wr.cell? ⟨gb219,1,none⟩ = some (.slice none 0 0):=(kC_ BK219.out 1).trans rfl
           have hcz104_2 : wr.cell? ⟨gb219,2,none⟩ = some (.slice none 0 0):=(kC_ BK219.out 2).trans rfl
           have hcz104_3 : wr.cell? ⟨gb219,3,none⟩ = some (.slice none 0 0):=(kC_ BK219.out 3).trans rfl
           have hfz104_0:=kF_ BK219.out 0
           have hfz104_1:=kF_ BK219.out 1
           have hfz104_2:=kF_ BK219.out 2
           have hfz104_3:=kF_ BK219.out 3
           go_wp2
           refine bodyPost_ret (results_ct rfl _ _ gb219 29 #[.bool false,.slice none 0 0,.slice none 0 0,.slice none 0 0] (0,0) _ rfl (by (with_reducible repeat (first | refine kN_ ?_ _ | refine kD_ ?_ | refine kA_ ?_ _));refine kP_ (cs:=#[.bool false,.slice none 0 0,.slice none 0 0,.slice none 0 0]) ?_ 3 _ rfl;(with_reducible repeat (first | refine kN_ ?_ _ | refine kD_ ?_ | refine kA_ ?_ _));refine kP_ (cs:=#[.bool false,.slice none 0 0,.slice none 0 0,.slice none 0 0]) ?_ 2 _ rfl;(with_reducible repeat (first | refine kN_ ?_ _ | refine kD_ ?_ | refine kA_ ?_ _));refine kP_ (cs:=#[.bool false,.slice none 0 0,.slice none 0 0,.slice none 0 0]) ?_ 1 _ rfl;(with_reducible repeat (first | refine kN_ ?_ _ | refine kD_ ?_ | refine kA_ ?_ _));refine kP_ (cs:=#[.bool false,.slice none 0 0,.slice none 0 0,.slice none 0 0]) ?_ 0 _ rfl;exact kZ_ BK219) Try.underlying29 rfl (by kernel_rfl)) rfl ?_
           exact ⟨_,_,_,by first | rfl | (simp [errW_none,errW_some] <;> rfl) | (simp [*, errW_none,errW_some] <;> rfl),by first | exact Kd.R_nil _ _ _ _ _ | exact Kd.N_nil _ _ _ _ _ | exact Kd.V_nil _ _ _ _ _ | exact Kd.Q_nil _ _ _ _ _ | exact Kd.S_nil _ _ _ _ _,by first | exact Kd.R_nil _ _ _ _ _ | exact Kd.N_nil _ _ _ _ _ | exact Kd.V_nil _ _ _ _ _ | exact Kd.Q_nil _ _ _ _ _ | exact Kd.S_nil _ _ _ _ _,by first | exact Kd.R_nil _ _ _ _ _ | exact Kd.N_nil _ _ _ _ _ | exact Kd.V_nil _ _ _ _ _ | exact Kd.Q_nil _ _ _ _ _ | exact Kd.S_nil _ _ _ _ _,by have e0_:=aM_ (J98.ge HI220.out);exact bZ_ HB⟩
          ·replace c100:=Bool.eq_false_iff.mpr c100
           subst c100
           have H1 : (if x221001_4 = (l0.length : Int) then ((spec_NodeOk.f k4 y227 x229001_13 x229002_31 x229003_4).bind fun t248=>(if t248 = true then (some (y227,x229001_13,x229002_31,x229003_4,true)) else (some (false,([] : List ByteArray),([] : List ByteArray),([] : List Int),false)))) else (some (false,([] : List ByteArray),([] : List ByteArray),([] : List Int),false))) = some (r1,r2,r3,r4,r5):=by rw [if_neg (show ¬ (false = true) by decide)] at H;exact H
           clear H
           have H:=H1
           clear H1
           by_cases c105 : x221001_4 = (l0.length : Int)
           ·rw [if_pos c105] at H
            have c105b0 : (x221001_4 == (l0.length : Int)) = true:=beq_iff_eq.mpr c105
            have c105b1 : (x221001_4 != (l0.length : Int)) = false:=bne_eq_false_iff_eq.mpr c105
            clear c105
            replace H:=oB_ H
            obtain ⟨t248,A1060,H⟩:=H
            replace H : (if t248 = true then (some (y227,x229001_13,x229002_31,x229003_4,true)) else (some (false,([] : List ByteArray),([] : List ByteArray),([] : List Int),false))) = some (r1,r2,r3,r4,r5):=H
            have A106:=aM_ A1060
            clear A1060
            by_cases c107 : t248 = true
            ·subst c107
             have H1 : (some (y227,x229001_13,x229002_31,x229003_4,true)) = some (r1,r2,r3,r4,r5):=by rw [if_pos rfl] at H;exact H
             clear H
             have H:=H1
             clear H1
             simp only [Option.some.injEq,Prod.mk.injEq] at H
             obtain ⟨rfl,rfl,rfl,rfl,rfl⟩:=H
             obtain ⟨ASz108_0,cSz108_0,HGz108,hgz108,HSz108_0,HLnz108_0⟩:=HI220.out
             have hcz108_0:=cellS98_0 HGz108
             have hcz108_1:=cellS98_1 HGz108
             have hcz108_2:=cellS98_2 HGz108
             have hfz108_1:=kF_ HGz108 1
             have hfz108_2:=kF_ HGz108 2
             clear HGz108 hgz108
             have hnb109:=NB228_219.out
             have hnc109:=NB219_228.out
             have hnb110:=NB228_220.out
             have hnc110:=NB220_228.out
             have hcz111_0 : wr.cell? ⟨gb228,0,none⟩ = some (.bool y227):=(kC_ BK228.out 0).trans rfl
             have hcz111_1 : wr.cell? ⟨gb228,1,none⟩ = some (u229001):=(kC_ BK228.out 1).trans rfl
             have hcz111_2 : wr.cell? ⟨gb228,2,none⟩ = some (u229002):=(kC_ BK228.out 2).trans rfl
             have hcz111_3 : wr.cell? ⟨gb228,3,none⟩ = some (u229003):=(kC_ BK228.out 3).trans rfl
             have hfz111_0:=kF_ BK228.out 0
             have hfz111_1:=kF_ BK228.out 1
             have hfz111_2:=kF_ BK228.out 2
             have hfz111_3:=kF_ BK228.out 3
             obtain ⟨Ao112,co112,eo112⟩:=Kd.R_slice HO_229001.out
             subst eo112
             obtain ⟨Ao113,co113,eo113⟩:=Kd.R_slice HO_229002.out
             subst eo113
             obtain ⟨Ao114,co114,eo114⟩:=Kd.R_slice HO_229003.out
             subst eo114
             go_wp2_with (first | (go_at_call 32;(with_reducible refine (spec_NodeOk.calls k4 y227 _ _ x229001_13 _ _ x229002_31 _ _ x229003_4 true _ ?side1 ?side2 ?side3 ?side4 ?side5 ?side6 A106.out).mono ?_);(case side1=>repeat (first | exact (Kd.R_reads' HO_229001.out).2.2 | (with_reducible refine cA_ ?_ _) | (with_reducible refine cN_ ?_ _) | (with_reducible refine cD_ ?_)));(case side2=>exact (Kd.R_reads' HO_229001.out).2.1);(case side3=>repeat (first | exact (Kd.R_reads' HO_229002.out).2.2 | (with_reducible refine cA_ ?_ _) | (with_reducible refine cN_ ?_ _) | (with_reducible refine cD_ ?_)));(case side4=>exact (Kd.R_reads' HO_229002.out).2.1);(case side5=>repeat (first | exact (Kd.R_reads' HO_229003.out).2.2 | (with_reducible refine cA_ ?_ _) | (with_reducible refine cN_ ?_ _) | (with_reducible refine cD_ ?_)));(case side6=>exact (Kd.R_reads' HO_229003.out).2.1);rintro e w115 ⟨rfl,hb⟩;have n0_:=aM_ (Kd.R_below (by exact rZ_ HO_229001) hb);have n1_:=aM_ (Kd.R_below (by exact rZ_ HO_229002) hb);have n2_:=aM_ (Kd.R_below (by exact rZ_ HO_229003) hb);have n3_:=aM_ (blk_below (g:=gb219) (o:=.cells #[.bool false,.slice none 0 0,.slice none 0 0,.slice none 0 0] 29 (0,0)) (by exact kZ_ BK219) hb);have n4_:=aM_ (blk_below (g:=gb228) (o:=.cells #[.bool y227,.slice Ao112 x229001_13.length co112,.slice Ao113 x229002_31.length co113,.slice Ao114 x229003_4.length co114] 29 (0,0)) (by exact kZ_ BK228) hb);have n5_:=aM_ (J98.below (by repeat first | exact J98.z HI220 | apply J98.set_1 | apply J98.set_2 | refine J98.y ?_) hb);have n6_:=aM_ (bT_ (by have e0_:=aM_ (J98.ge HI220.out);exact bZ_ HB) hb);clear HO_229001 HO_229002 HO_229003 BK219 BK228 HI220 HB;have HO_229001:=n0_;have HO_229002:=n1_;have HO_229003:=n2_;have BK219:=n3_;have BK228:=n4_;have HI220:=n5_;have HB:=n6_;clear n0_ n1_ n2_ n3_ n4_ n5_ n6_ hb;have hcz116_0 : w115.cell? ⟨gb228,0,none⟩ = some (.bool y227):=(kC_ BK228.out 0).trans rfl;have hcz116_1 : w115.cell? ⟨gb228,1,none⟩ = some (.slice Ao112 x229001_13.length co112):=(kC_ BK228.out 1).trans rfl;have hcz116_2 : w115.cell? ⟨gb228,2,none⟩ = some (.slice Ao113 x229002_31.length co113):=(kC_ BK228.out 2).trans rfl;have hcz116_3 : w115.cell? ⟨gb228,3,none⟩ = some (.slice Ao114 x229003_4.length co114):=(kC_ BK228.out 3).trans rfl;have hfz116_0:=kF_ BK228.out 0;have hfz116_1:=kF_ BK228.out 1;have hfz116_2:=kF_ BK228.out 2;have hfz116_3:=kF_ BK228.out 3;have hnb117:=NB219_220.out;have hnc117:=NB220_219.out;have hcz118_0 : w115.cell? ⟨gb219,0,none⟩ = some (.bool false):=(kC_ BK219.out 0).trans rfl;have hcz118_1 : w115.cell? ⟨gb219,1,none⟩ = some (.slice none 0 0):=(kC_ BK219.out 1).trans rfl;have hcz118_2 : w115.cell? ⟨gb219,2,none⟩ = some (.slice none 0 0):=(kC_ BK219.out 2).trans rfl;have hcz118_3 : w115.cell? ⟨gb219,3,none⟩ = some (.slice none 0 0):=(kC_ BK219.out 3).trans rfl;have hfz118_0:=kF_ BK219.out 0;have hfz118_1:=kF_ BK219.out 1;have hfz118_2:=kF_ BK219.out 2;have hfz118_3:=kF_ BK219.out 3))
             refine bodyPost_ret (results_ct rfl _ _ gb219 29 #[.bool y227,.slice Ao112 x229001_13.length co112,.slice Ao113 x229002_31.length co113,.slice Ao114 x229003_4.length co114] (0,0) _ rfl (by (with_reducible repeat (first | refine kN_ ?_ _ | refine kD_ ?_ | refine kA_ ?_ _));refine kP_ (cs:=#[.bool y227,.slice Ao112 x229001_13.length co112,.slice Ao113 x229002_31.length co113,.slice none 0 0]) ?_ 3 _ rfl;(with_reducible repeat (first | refine kN_ ?_ _ | refine kD_ ?_ | refine kA_ ?_ _));refine kP_ (cs:=#[.bool y227,.slice Ao112 x229001_13.length co112,.slice none 0 0,.slice none 0 0]) ?_ 2 _ rfl;(with_reducible repeat (first | refine kN_ ?_ _ | refine kD_ ?_ | refine kA_ ?_ _));refine kP_ (cs:=#[.bool y227,.slice none 0 0,.slice none 0 0,.slice none 0 0]) ?_ 1 _ rfl;(with_reducible repeat (first | refine kN_ ?_ _ | refine kD_ ?_ | refine kA_ ?_ _));refine kP_ (cs:=#[.bool false,.slice none 0 0,.slice none 0 0,.slice none 0 0]) ?_ 0 _ rfl;exact kZ_ BK219) Try.underlying29 rfl (by kernel_rfl)) rfl ?_
             exact ⟨_,_,_,by first | rfl | (simp [errW_none,errW_some] <;> rfl) | (simp [*, errW_none,errW_some] <;> rfl),by (with_reducible repeat (first | apply rA_ | apply rN_ | apply rD_));exact Kd.R_mono (Kd.R_far (p:=⟨gb219,3,none⟩) (Kd.R_far (p:=⟨gb219,2,none⟩) (Kd.R_far (p:=⟨gb219,1,none⟩) (Kd.R_far (p:=⟨gb219,0,none⟩) (Kd.R_types HO_229001.out BK219.out (by decide)) (fun _ hk=>hk.2) (.bool y227)) (fun _ hk=>hk.2) (.slice Ao112 x229001_13.length co112)) (fun _ hk=>hk.2) (.slice Ao113 x229002_31.length co113)) (fun _ hk=>hk.2) (.slice Ao114 x229003_4.length co114)) (fun _ hk=>hk.1),by (with_reducible repeat (first | apply rA_ | apply rN_ | apply rD_));exact Kd.R_mono (Kd.R_far (p:=⟨gb219,3,none⟩) (Kd.R_far (p:=⟨gb219,2,none⟩) (Kd.R_far (p:=⟨gb219,1,none⟩) (Kd.R_far (p:=⟨gb219,0,none⟩) (Kd.R_types HO_229002.out BK219.out (by decide)) (fun _ hk=>hk.2) (.bool y227)) (fun _ hk=>hk.2) (.slice Ao112 x229001_13.length co112)) (fun _ hk=>hk.2) (.slice Ao113 x229002_31.length co113)) (fun _ hk=>hk.2) (.slice Ao114 x229003_4.length co114)) (fun _ hk=>hk.1),by (with_reducible repeat (first | apply rA_ | apply rN_ | apply rD_));exact Kd.R_mono (Kd.R_far (p:=⟨gb219,3,none⟩) (Kd.R_far (p:=⟨gb219,2,none⟩) (Kd.R_far (p:=⟨gb219,1,none⟩) (Kd.R_far (p:=⟨gb219,0,none⟩) (Kd.R_types HO_229003.out BK219.out (by decide)) (fun _ hk=>hk.2) (.bool y227)) (fun _ hk=>hk.2) (.slice Ao112 x229001_13.length co112)) (fun _ hk=>hk.2) (.slice Ao113 x229002_31.length co113)) (fun _ hk=>hk.2) (.slice Ao114 x229003_4.length co114)) (fun _ hk=>trivial),by have e0_:=aM_ (J98.ge HI220.out);exact bZ_ HB⟩
            ·replace c107:=Bool.eq_false_iff.mpr c107
             subst c107
             have H1 : (some (false,([] : List ByteArray),([] : List ByteArray),([] : List Int),false)) = some (r1,r2,r3,r4,r5):=by rw [if_neg (show ¬ (false = true) by decide)] at H;exact H
             clear H
             have H:=H1
             clear H1
             simp only [Option.some.injEq,Prod.mk.injEq] at H
             obtain ⟨rfl,rfl,rfl,rfl,rfl⟩:=H
             obtain ⟨ASz119_0,cSz119_0,HGz119,hgz119,HSz119_0,HLnz119_0⟩:=HI220.out
             have hcz119_0:=cellS98_0 HGz119
             have hcz119_1:=cellS98_1 HGz119
             have hcz119_2:=cellS98_2 HGz119
             have hfz119_1:=kF_ HGz119 1
             have hfz119_2:=kF_ HGz119 2
             clear HGz119 hgz119
             have hnb120:=NB228_219.out
             have hnc120:=NB219_228.out
             have hnb121:=NB228_220.out
             have hnc121:=NB220_228.out
             have hcz122_0 : wr.cell? ⟨gb228,0,none⟩ = some (.bool y227):=(kC_ BK228.out 0).trans rfl
             have hcz122_1 : wr.cell? ⟨gb228,1,none⟩ = some (u229001):=(kC_ BK228.out 1).trans rfl
             have hcz122_2 : wr.cell? ⟨gb228,2,none⟩ = some (u229002):=(kC_ BK228.out 2).trans rfl
             have hcz122_3 : wr.cell? ⟨gb228,3,none⟩ = some (u229003):=(kC_ BK228.out 3).trans rfl
             have hfz122_0:=kF_ BK228.out 0
             have hfz122_1:=kF_ BK228.out 1
             have hfz122_2:=kF_ BK228.out 2
             have hfz122_3:=kF_ BK228.out 3
             obtain ⟨Ao123,co123,eo123⟩:=Kd.R_slice HO_229001.out
             subst eo123
             obtain ⟨Ao124,co124,eo124⟩:=Kd.R_slice HO_229002.out
             subst eo124
             obtain ⟨Ao125,co125,eo125⟩:=Kd.R_slice HO_229003.out
             subst eo125
             go_wp2_with (first | (go_at_call 32;(with_reducible refine (spec_NodeOk.calls k4 y227 _ _ x229001_13 _ _ x229002_31 _ _ x229003_4 false _ ?side1 ?side2 ?side3 ?side4 ?side5 ?side6 A106.out).mono ?_);(case side1=>repeat (first | exact (Kd.R_reads' HO_229001.out).2.2 | (with_reducible refine cA_ ?_ _) | (with_reducible refine cN_ ?_ _) | (with_reducible refine cD_ ?_)));(case side2=>exact (Kd.R_reads' HO_229001.out).2.1);(case side3=>repeat (first | exact (Kd.R_reads' HO_229002.out).2.2 | (with_reducible refine cA_ ?_ _) | (with_reducible refine cN_ ?_ _) | (with_reducible refine cD_ ?_)));(case side4=>exact (Kd.R_reads' HO_229002.out).2.1);(case side5=>repeat (first | exact (Kd.R_reads' HO_229003.out).2.2 | (with_reducible refine cA_ ?_ _) | (with_reducible refine cN_ ?_ _) | (with_reducible refine cD_ ?_)));(case side6=>exact (Kd.R_reads' HO_229003.out).2.1);rintro e w126 ⟨rfl,hb⟩;have n0_:=aM_ (Kd.R_below (by exact rZ_ HO_229001) hb);have n1_:=aM_ (Kd.R_below (by exact rZ_ HO_229002) hb);have n2_:=aM_ (Kd.R_below (by exact rZ_ HO_229003) hb);have n3_:=aM_ (blk_below (g:=gb219) (o:=.cells #[.bool false,.slice none 0 0,.slice none 0 0,.slice none 0 0] 29 (0,0)) (by exact kZ_ BK219) hb);have n4_:=aM_ (blk_below (g:=gb228) (o:=.cells #[.bool y227,.slice Ao123 x229001_13.length co123,.slice Ao124 x229002_31.length co124,.slice Ao125 x229003_4.length co125] 29 (0,0)) (by exact kZ_ BK228) hb);have n5_:=aM_ (J98.below (by repeat first | exact J98.z HI220 | apply J98.set_1 | apply J98.set_2 | refine J98.y ?_) hb);have n6_:=aM_ (bT_ (by have e0_:=aM_ (J98.ge HI220.out);exact bZ_ HB) hb);clear HO_229001 HO_229002 HO_229003 BK219 BK228 HI220 HB;have HO_229001:=n0_;have HO_229002:=n1_;have HO_229003:=n2_;have BK219:=n3_;have BK228:=n4_;have HI220:=n5_;have HB:=n6_;clear n0_ n1_ n2_ n3_ n4_ n5_ n6_ hb;have hnb127:=NB219_220.out;have hnc127:=NB220_219.out;have hcz128_0 : w126.cell? ⟨gb219,0,none⟩ = some (.bool false):=(kC_ BK219.out 0).trans rfl;have hcz128_1 : w126.cell? ⟨gb219,1,none⟩ = some (.slice none 0 0):=(kC_ BK219.out 1).trans rfl;have hcz128_2 : w126.cell? ⟨gb219,2,none⟩ = some (.slice none 0 0):=(kC_ BK219.out 2).trans rfl;have hcz128_3 : w126.cell? ⟨gb219,3,none⟩ = some (.slice none 0 0):=(kC_ BK219.out 3).trans rfl;have hfz128_0:=kF_ BK219.out 0;have hfz128_1:=kF_ BK219.out 1;have hfz128_2:=kF_ BK219.out 2;have hfz128_3:=kF_ BK219.out 3))
             refine bodyPost_ret (results_ct rfl _ _ gb219 29 #[.bool false,.slice none 0 0,.slice none 0 0,.slice none 0 0] (0,0) _ rfl (by (with_reducible repeat (first | refine kN_ ?_ _ | refine kD_ ?_ | refine kA_ ?_ _));refine kP_ (cs:=#[.bool false,.slice none 0 0,.slice none 0 0,.slice none 0 0]) ?_ 3 _ rfl;(with_reducible repeat (first | refine kN_ ?_ _ | refine kD_ ?_ | refine kA_ ?_ _));refine kP_ (cs:=#[.bool false,.slice none 0 0,.slice none 0 0,.slice none 0 0]) ?_ 2 _ rfl;(with_reducible repeat (first | refine kN_ ?_ _ | refine kD_ ?_ | refine kA_ ?_ _));refine kP_ (cs:=#[.bool false,.slice none 0 0,.slice none 0 0,.slice none 0 0]) ?_ 1 _ rfl;(with_reducible repeat (first | refine kN_ ?_ _ | refine kD_ ?_ | refine kA_ ?_ _));refine kP_ (cs:=#[.bool false,.slice none 0 0,.slice none 0 0,.slice none 0 0]) ?_ 0 _ rfl;exact kZ_ BK219) Try.underlying29 rfl (by kernel_rfl)) rfl ?_
             exact ⟨_,_,_,by first | rfl | (simp [errW_none,errW_some] <;> rfl) | (simp [*, errW_none,errW_some] <;> rfl),by first | exact Kd.R_nil _ _ _ _ _ | exact Kd.N_nil _ _ _ _ _ | exact Kd.V_nil _ _ _ _ _ | exact Kd.Q_nil _ _ _ _ _ | exact Kd.S_nil _ _ _ _ _,by first | exact Kd.R_nil _ _ _ _ _ | exact Kd.N_nil _ _ _ _ _ | exact Kd.V_nil _ _ _ _ _ | exact Kd.Q_nil _ _ _ _ _ | exact Kd.S_nil _ _ _ _ _,by first | exact Kd.R_nil _ _ _ _ _ | exact Kd.N_nil _ _ _ _ _ | exact Kd.V_nil _ _ _ _ _ | exact Kd.Q_nil _ _ _ _ _ | exact Kd.S_nil _ _ _ _ _,by have e0_:=aM_ (J98.ge HI220.out);exact bZ_ HB⟩
           ·rw [if_neg c105] at H
            have c105b0 : (x221001_4 == (l0.length : Int)) = false:=beq_eq_false_iff_ne.mpr c105
            have c105b1 : (x221001_4 != (l0.length : Int)) = true:=bne_iff_ne.mpr c105
            simp only [Option.some.injEq,Prod.mk.injEq] at H
            obtain ⟨rfl,rfl,rfl,rfl,rfl⟩:=H
            obtain ⟨ASz129_0,cSz129_0,HGz129,hgz129,HSz129_0,HLnz129_0⟩:=HI220.out
            have hcz129_0:=cellS98_0 HGz129
            have hcz129_1:=cellS98_1 HGz129
            have hcz129_2:=cellS98_2 HGz129
            have hfz129_1:=kF_ HGz129 1
            have hfz129_2:=kF_ HGz129 2
            clear HGz129 hgz129
            have hnb130:=NB219_228.out
            have hnc130:=NB228_219.out
            have hnb131:=NB219_220.out
            have hnc131:=NB220_219.out
            have hcz132_0 : wr.cell? ⟨gb219,0,none⟩ = some (.bool false):=(kC_ BK219.out 0).trans rfl
            have hcz132_1 : wr.cell? ⟨gb219,1,none⟩ = some (.slice none 0 0):=(kC_ BK219.out 1).trans rfl
            have hcz132_2 : wr.cell? ⟨gb219,2,none⟩ = some (.slice none 0 0):=(kC_ BK219.out 2).trans rfl
            have hcz132_3 : wr.cell? ⟨gb219,3,none⟩ = some (.slice none 0 0):=(kC_ BK219.out 3).trans rfl
            have hfz132_0:=kF_ BK219.out 0
            have hfz132_1:=kF_ BK219.out 1
            have hfz132_2:=kF_ BK219.out 2
            have hfz132_3:=kF_ BK219.out 3
            go_wp2
            refine bodyPost_ret (results_ct rfl _ _ gb219 29 #[.bool false,.slice none 0 0,.slice none 0 0,.slice none 0 0] (0,0) _ rfl (by (with_reducible repeat (first | refine kN_ ?_ _ | refine kD_ ?_ | refine kA_ ?_ _));refine kP_ (cs:=#[.bool false,.slice none 0 0,.slice none 0 0,.slice none 0 0]) ?_ 3 _ rfl;(with_reducible repeat (first | refine kN_ ?_ _ | refine kD_ ?_ | refine kA_ ?_ _));refine kP_ (cs:=#[.bool false,.slice none 0 0,.slice none 0 0,.slice none 0 0]) ?_ 2 _ rfl;(with_reducible repeat (first | refine kN_ ?_ _ | refine kD_ ?_ | refine kA_ ?_ _));refine kP_ (cs:=#[.bool false,.slice none 0 0,.slice none 0 0,.slice none 0 0]) ?_ 1 _ rfl;(with_reducible repeat (first | refine kN_ ?_ _ | refine kD_ ?_ | refine kA_ ?_ _));refine kP_ (cs:=#[.bool false,.slice none 0 0,.slice none 0 0,.slice none 0 0]) ?_ 0 _ rfl;exact kZ_ BK219) Try.underlying29 rfl (by kernel_rfl)) rfl ?_
            exact ⟨_,_,_,by first | rfl | (simp [errW_none,errW_some] <;> rfl) | (simp [*, errW_none,errW_some] <;> rfl),by first | exact Kd.R_nil _ _ _ _ _ | exact Kd.N_nil _ _ _ _ _ | exact Kd.V_nil _ _ _ _ _ | exact Kd.Q_nil _ _ _ _ _ | exact Kd.S_nil _ _ _ _ _,by first | exact Kd.R_nil _ _ _ _ _ | exact Kd.N_nil _ _ _ _ _ | exact Kd.V_nil _ _ _ _ _ | exact Kd.Q_nil _ _ _ _ _ | exact Kd.S_nil _ _ _ _ _,by first | exact Kd.R_nil _ _ _ _ _ | exact Kd.N_nil _ _ _ _ _ | exact Kd.V_nil _ _ _ _ _ | exact Kd.Q_nil _ _ _ _ _ | exact Kd.S_nil _ _ _ _ _,by have e0_:=aM_ (J98.ge HI220.out);exact bZ_ HB⟩
end Go.Proofs.Ytllgmgpfdnofmaa.PFnNodes
