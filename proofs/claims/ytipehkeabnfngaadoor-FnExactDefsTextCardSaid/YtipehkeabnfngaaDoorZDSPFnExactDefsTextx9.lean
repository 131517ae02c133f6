import Derived.Test.YtipehkeabnfngaaDoorZDSPFnExactDefsTextx0
import Derived.Test.YtipehkeabnfngaaDoorZDSPFnExactDefsTextx6
import Derived.Test.YtipehkeabnfngaaDoorZDSPFnExactDefsTextx7
import Derived.Test.YtipehkeabnfngaaDoorZDSPFnExactDefsTextx8
namespace Go.Proofs.YtipehkeabnfngaaDoor.PFnExactDefsText
open Go.RowKit Go.Proofs.YtipehkeabnfngaaDoorW.PrintWords Go.Proofs.YtipehkeabnfngaaDoorW.PrintLast Go.Proofs.YtipehkeabnfngaaDoorW.PrintMore Go.Proofs.YtipehkeabnfngaaDoor.Xtra
attribute [local go_sem] max2_int min2_int max_two min_two max_three min_three max_four min_four str_leq str_gtr str_geq setCell_drewN cell_set2 cell_set3   -- for this text's walks alone
set_option linter.unusedVariables false
set_option linter.unusedSimpArgs false
def spec_CheckDef.l0 : Nat → Int → ByteArray → List (S82) → List (S85) → List (S69) → Option (Int)
 | 0,_,_,_,_,_=>none
 | k + 1,x3,x241000,x241001,x241002,x241003=>if x3 < (x241002.length : Int) then (if 0 ≤ x3 then (if 0 ≤ ((rd_T85 x241002 x3).f0) then (if ((rd_T85 x241002 x3).f0) < (x241001.length : Int) then (if (rd_T82 x241001 ((rd_T85 x241002 x3).f0)).f2 = true then (some 4) else (spec_CheckDef.l0 k (wrap64 (x3 + 1)) x241000 x241001 x241002 x241003)) else (none)) else (none)) else (none)) else (some 0)
def spec_CheckDef.f (k : Nat) (a0_0 : ByteArray) (l0_1 : List (S82)) (l0_2 : List (S85)) (l0_3 : List (S69)) : Option (Int):=(spec_l9Names.f k a0_0 l0_1 l0_2 l0_3).bind fun t241=>(if t241 = true then ((spec_l9Types.f k a0_0 l0_1 l0_2 l0_3).bind fun t242=>(if t242 = true then ((spec_l9Once.f k a0_0 l0_1 l0_2 l0_3).bind fun t243=>(if t243 = true then (if (l0_3.length : Int) > 2 then (some 6) else ((spec_l9AllParts.f k a0_0 l0_1 l0_2 l0_3).bind fun t244=>(if t244 = true then (spec_CheckDef.l0 k 0 a0_0 l0_1 l0_2 l0_3) else (some 5)))) else (some 3))) else (some 2))) else (some 1))
theorem spec_CheckDef.mono_l : ∀ k,(∀ y0 y1 y2 y3 y4,LeO (spec_CheckDef.l0 k y0 y1 y2 y3 y4) (spec_CheckDef.l0 (k + 1) y0 y1 y2 y3 y4))
 | 0=>fun _ _ _ _ _ r h=>by simp [spec_CheckDef.l0] at h
 | k + 1=>by
  have ih0:=spec_CheckDef.mono_l k
  ·intro y0 y1 y2 y3 y4
   unfold spec_CheckDef.l0
   repeat' first
   | (with_reducible exact ih0 _ _ _ _ _)
   | (with_reducible exact spec_l9AllParts.mono _ _ _ _ _)
   | (with_reducible exact spec_l9Names.mono _ _ _ _ _)
   | (with_reducible exact spec_l9Once.mono _ _ _ _ _)
   | (with_reducible exact spec_l9Types.mono _ _ _ _ _)
   | (with_reducible exact LeO.refl _)
   | (with_reducible exact LeO.none _)
   | (with_reducible refine LeO.ite ?_ ?_)
   | (with_reducible refine LeO.bind ?_ (fun _=>?_))
   | exact ih0 _ _ _ _ _
   | exact spec_l9AllParts.mono _ _ _ _ _
   | exact spec_l9Names.mono _ _ _ _ _
   | exact spec_l9Once.mono _ _ _ _ _
   | exact spec_l9Types.mono _ _ _ _ _
   | exact LeO.none _
   | refine LeO.ite ?_ ?_
   | refine LeO.bind ?_ (fun _=>?_)
theorem spec_CheckDef.mono : ∀ a0 a1 a2 a3 k,LeO (spec_CheckDef.f k a0 a1 a2 a3) (spec_CheckDef.f (k + 1) a0 a1 a2 a3):=by
 intro a0 a1 a2 a3 k
 have ih0:=spec_CheckDef.mono_l k
 unfold spec_CheckDef.f
 repeat' first
   | (with_reducible exact ih0 _ _ _ _ _)
   | (with_reducible exact spec_l9AllParts.mono _ _ _ _ _)
   | (with_reducible exact spec_l9Names.mono _ _ _ _ _)
   | (with_reducible exact spec_l9Once.mono _ _ _ _ _)
   | (with_reducible exact spec_l9Types.mono _ _ _ _ _)
   | (with_reducible exact LeO.refl _)
   | (with_reducible exact LeO.none _)
   | (with_reducible refine LeO.ite ?_ ?_)
   | (with_reducible refine LeO.bind ?_ (fun _=>?_))
   | exact ih0 _ _ _ _ _
   | exact spec_l9AllParts.mono _ _ _ _ _
   | exact spec_l9Names.mono _ _ _ _ _
   | exact spec_l9Once.mono _ _ _ _ _
   | exact spec_l9Types.mono _ _ _ _ _
   | exact LeO.none _
   | refine LeO.ite ?_ ?_
   | refine LeO.bind ?_ (fun _=>?_)
set_option maxHeartbeats 8000000 in
set_option maxRecDepth 100000 in
theorem spec_CheckDef.calls (k : Nat) (a0_0 : ByteArray) (A0_1 : Option Addr) (c0_1 : Nat) (l0_1 : List (S82)) (A0_2 : Option Addr) (c0_2 : Nat) (l0_2 : List (S85)) (A0_3 : Option Addr) (c0_3 : Nat) (l0_3 : List (S69)) (r : Int) (w : World) (hr0_1 : Kd.C k82 w A0_1 l0_1.length l0_1) (hc0_1 : l0_1.length ≤ c0_1) (hr0_2 : Kd.C k85 w A0_2 l0_2.length l0_2) (hc0_2 : l0_2.length ≤ c0_2) (hr0_3 : Kd.C k69 w A0_3 l0_3.length l0_3) (hc0_3 : l0_3.length ≤ c0_3) (h : spec_CheckDef.f k a0_0 l0_1 l0_2 l0_3 = some r) :
  Calls Tryd.prog 23 #[.agg #[.string a0_0,.slice A0_1 l0_1.length c0_1,.slice A0_2 l0_2.length c0_2,.slice A0_3 l0_3.length c0_3]] w fun e w'=>e = .returned (.int .i64 r) ∧ Below w.heap.size w w':=by
 have hu35:=Tryd.underlying35
 have HR0_1:=aM_ hr0_1
 have HC0_1:=aM_ hc0_1
 clear hr0_1 hc0_1
 have HR0_2:=aM_ hr0_2
 have HC0_2:=aM_ hc0_2
 clear hr0_2 hc0_2
 have HR0_3:=aM_ hr0_3
 have HC0_3:=aM_ hc0_3
 clear hr0_3 hc0_3
 have HB:=aM_ (Below.refl w.heap.size w)
 have H : ((spec_l9Names.f k a0_0 l0_1 l0_2 l0_3).bind fun t241=>(if t241 = true then ((spec_l9Types.f k a0_0 l0_1 l0_2 l0_3).bind fun t242=>(if t242 = true then ((spec_l9Once.f k a0_0 l0_1 l0_2 l0_3).bind fun t243=>(if t243 = true then (if (l0_3.length : Int) > 2 then (some 6) else ((spec_l9AllParts.f k a0_0 l0_1 l0_2 l0_3).bind fun t244=>(if t244 = true then (spec_CheckDef.l0 k 0 a0_0 l0_1 l0_2 l0_3) else (some 5)))) else (some 3))) else (some 2))) else (some 1))) = some r:=h
 clear h
 replace H:=oB_ H
 obtain ⟨t241,A20,H⟩:=H
 replace H : (if t241 = true then ((spec_l9Types.f k a0_0 l0_1 l0_2 l0_3).bind fun t242=>(if t242 = true then ((spec_l9Once.f k a0_0 l0_1 l0_2 l0_3).bind fun t243=>(if t243 = true then (if (l0_3.length : Int) > 2 then (some 6) else ((spec_l9AllParts.f k a0_0 l0_1 l0_2 l0_3).bind fun t244=>(if t244 = true then (spec_CheckDef.l0 k 0 a0_0 l0_1 l0_2 l0_3) else (some 5)))) else (some 3))) else (some 2))) else (some 1)) = some r:=H
 have A2:=aM_ A20
 clear A20
 by_cases c3 : t241 = true
 ·subst c3
  have H1 : ((spec_l9Types.f k a0_0 l0_1 l0_2 l0_3).bind fun t242=>(if t242 = true then ((spec_l9Once.f k a0_0 l0_1 l0_2 l0_3).bind fun t243=>(if t243 = true then (if (l0_3.length : Int) > 2 then (some 6) else ((spec_l9AllParts.f k a0_0 l0_1 l0_2 l0_3).bind fun t244=>(if t244 = true then (spec_CheckDef.l0 k 0 a0_0 l0_1 l0_2 l0_3) else (some 5)))) else (some 3))) else (some 2))) = some r:=by rw [if_pos rfl] at H;exact H
  clear H
  have H:=H1
  clear H1
  replace H:=oB_ H
  obtain ⟨t242,A40,H⟩:=H
  replace H : (if t242 = true then ((spec_l9Once.f k a0_0 l0_1 l0_2 l0_3).bind fun t243=>(if t243 = true then (if (l0_3.length : Int) > 2 then (some 6) else ((spec_l9AllParts.f k a0_0 l0_1 l0_2 l0_3).bind fun t244=>(if t244 = true then (spec_CheckDef.l0 k 0 a0_0 l0_1 l0_2 l0_3) else (some 5)))) else (some 3))) else (some 2)) = some r:=H
  have A4:=aM_ A40
  clear A40
  by_cases c5 : t242 = true
  ·subst c5
   have H1 : ((spec_l9Once.f k a0_0 l0_1 l0_2 l0_3).bind fun t243=>(if t243 = true then (if (l0_3.length : Int) > 2 then (some 6) else ((spec_l9AllParts.f k a0_0 l0_1 l0_2 l0_3).bind fun t244=>(if t244 = true then (spec_CheckDef.l0 k 0 a0_0 l0_1 l0_2 l0_3) else (some 5)))) else (some 3))) = some r:=by rw [if_pos rfl] at H;exact H
   clear H
   have H:=H1
   clear H1
   replace H:=oB_ H
   obtain ⟨t243,A60,H⟩:=H
   replace H : (if t243 = true then (if (l0_3.length : Int) > 2 then (some 6) else ((spec_l9AllParts.f k a0_0 l0_1 l0_2 l0_3).bind fun t244=>(if t244 = true then (spec_CheckDef.l0 k 0 a0_0 l0_1 l0_2 l0_3) else (some 5)))) else (some 3)) = some r:=H
   have A6:=aM_ A60
   clear A60
   by_cases c7 : t243 = true
   ·subst c7
    have H1 : (if (l0_3.length : Int) > 2 then (some 6) else ((spec_l9AllParts.f k a0_0 l0_1 l0_2 l0_3).bind fun t244=>(if t244 = true then (spec_CheckDef.l0 k 0 a0_0 l0_1 l0_2 l0_3) else (some 5)))) = some r:=by rw [if_pos rfl] at H;exact H
    clear H
    have H:=H1
    clear H1
    by_cases c8 : (l0_3.length : Int) > 2
    ·rw [if_pos c8] at H
     have c8b0 : decide (2 < (l0_3.length : Int)) = true:=decide_eq_true c8
     have c8b1 : decide (2 < l0_3.length) = true:=decide_eq_true (by omega)
     clear c8
     obtain rfl:=Option.some.inj H
     go_enter Tryd.func23,Tryd.ntmps23
     go_wp2_with (first | ((with_reducible refine gate_dst (N:=1) rfl ?_);refine box_event ?hg (N:=1) ?hd (cs:=#[.string a0_0,.slice A0_1 l0_1.length c0_1,.slice A0_2 l0_2.length c0_2,.slice A0_3 l0_3.length c0_3]) (t:=35) ?hr ?_;(case hd=>rfl);(case hg=>rfl);(case hr=>first | (go_simp;done) | (go_simp;rfl));intro gb240 hg w9 hbox hb;have n0_:=aM_ (bT_ (by exact bZ_ HB) hb);have n1_:=aM_ (hbox);have n2_:=aM_ ((by rw [hg];exact (bS_ (by exact bZ_ HB)) : w.heap.size ≤ gb240));have n3_:=aM_ ((by rw [hg];exact (bS_ (by exact bZ_ HB)) : w.heap.size ≤ gb240));clear HB;have HB:=n0_;have BK240:=n1_;have GW240:=n2_;have GE240:=n3_;clear n0_ n1_ n2_ n3_ hb hbox hg;have hcz10_0 : w9.cell? ⟨gb240,0,none⟩ = some (.string a0_0):=(kC_ BK240.out 0).trans rfl;have hcz10_1 : w9.cell? ⟨gb240,1,none⟩ = some (.slice A0_1 l0_1.length c0_1):=(kC_ BK240.out 1).trans rfl;have hcz10_2 : w9.cell? ⟨gb240,2,none⟩ = some (.slice A0_2 l0_2.length c0_2):=(kC_ BK240.out 2).trans rfl;have hcz10_3 : w9.cell? ⟨gb240,3,none⟩ = some (.slice A0_3 l0_3.length c0_3):=(kC_ BK240.out 3).trans rfl;have hfz10_0:=kF_ BK240.out 0;have hfz10_1:=kF_ BK240.out 1;have hfz10_2:=kF_ BK240.out 2;have hfz10_3:=kF_ BK240.out 3) | (go_at_call 60;(with_reducible refine (spec_l9Names.calls k a0_0 _ _ l0_1 _ _ l0_2 _ _ l0_3 true _ ?side1 ?side2 ?side3 ?side4 ?side5 ?side6 A2.out).mono ?_);(case side1=>exact cZ_ HR0_1 HB);(case side2=>exact HC0_1.out);(case side3=>exact cZ_ HR0_2 HB);(case side4=>exact HC0_2.out);(case side5=>exact cZ_ HR0_3 HB);(case side6=>exact HC0_3.out);rintro e w11 ⟨rfl,hb⟩;have n0_:=aM_ (blk_below (g:=gb240) (o:=.cells #[.string a0_0,.slice A0_1 l0_1.length c0_1,.slice A0_2 l0_2.length c0_2,.slice A0_3 l0_3.length c0_3] 35 (0,0)) (by exact kZ_ BK240) hb);have n1_:=aM_ (bT_ (by exact bZ_ HB) hb);clear BK240 HB;have BK240:=n0_;have HB:=n1_;clear n0_ n1_ hb;have hcz12_0 : w11.cell? ⟨gb240,0,none⟩ = some (.string a0_0):=(kC_ BK240.out 0).trans rfl;have hcz12_1 : w11.cell? ⟨gb240,1,none⟩ = some (.slice A0_1 l0_1.length c0_1):=(kC_ BK240.out 1).trans rfl;have hcz12_2 : w11.cell? ⟨gb240,2,none⟩ = some (.slice A0_2 l0_2.length c0_2):=(kC_ BK240.out 2).trans rfl;have hcz12_3 : w11.cell? ⟨gb240,3,none⟩ = some (.slice A0_3 l0_3.length c0_3):=(kC_ BK240.out 3).trans rfl;have hfz12_0:=kF_ BK240.out 0;have hfz12_1:=kF_ BK240.out 1;have hfz12_2:=kF_ BK240.out 2;have hfz12_3:=kF_ BK240.out 3) | (go_at_call 61;(with_reducible refine (spec_l9Types.calls k a0_0 _ _ l0_1 _ _ l0_2 _ _ l0_3 true _ ?side1 ?side2 ?side3 ?side4 ?side5 ?side6 A4.out).mono ?_);(case side1=>exact cZ_ HR0_1 HB);(case side2=>exact HC0_1.out);(case side3=>exact cZ_ HR0_2 HB);(case side4=>exact HC0_2.out);(case side5=>exact cZ_ HR0_3 HB);(case side6=>exact HC0_3.out);rintro e w13 ⟨rfl,hb⟩;have n0_:=aM_ (blk_below (g:=gb240) (o:=.cells #[.string a0_0,.slice A0_1 l0_1.length c0_1,.slice A0_2 l0_2.length c0_2,.slice A0_3 l0_3.length c0_3] 35 (0,0)) (by exact kZ_ BK240) hb);have n1_:=aM_ (bT_ (by exact bZ_ HB) hb);clear BK240 HB;have BK240:=n0_;have HB:=n1_;clear n0_ n1_ hb;have hcz14_0 : w13.cell? ⟨gb240,0,none⟩ = some (.string a0_0):=(kC_ BK240.out 0).trans rfl;have hcz14_1 : w13.cell? ⟨gb240,1,none⟩ = some (.slice A0_1 l0_1.length c0_1):=(kC_ BK240.out 1).trans rfl;have hcz14_2 : w13.cell? ⟨gb240,2,none⟩ = some (.slice A0_2 l0_2.length c0_2):=(kC_ BK240.out 2).trans rfl;have hcz14_3 : w13.cell? ⟨gb240,3,none⟩ = some (.slice A0_3 l0_3.length c0_3):=(kC_ BK240.out 3).trans rfl;have hfz14_0:=kF_ BK240.out 0;have hfz14_1:=kF_ BK240.out 1;have hfz14_2:=kF_ BK240.out 2;have hfz14_3:=kF_ BK240.out 3) | (go_at_call 62;(with_reducible refine (spec_l9Once.calls k a0_0 _ _ l0_1 _ _ l0_2 _ _ l0_3 true _ ?side1 ?side2 ?side3 ?side4 ?side5 ?side6 A6.out).mono ?_);(case side1=>exact cZ_ HR0_1 HB);(case side2=>exact HC0_1.out);(case side3=>exact cZ_ HR0_2 HB);(case side4=>exact HC0_2.out);(case side5=>exact cZ_ HR0_3 HB);(case side6=>exact HC0_3.out);rintro e w15 ⟨rfl,hb⟩;have n0_:=aM_ (blk_below (g:=gb240) (o:=.cells #[.string a0_0,.slice A0_1 l0_1.length c0_1,.slice A0_2 l0_2.length c0_2,.slice A0_3 l0_3.length c0_3] 35 (0,0)) (by exact kZ_ BK240) hb);have n1_:=aM_ (bT_ (by exact bZ_ HB) hb);clear BK240 HB;have BK240:=n0_;have HB:=n1_;clear n0_ n1_ hb;have hcz16_0 : w15.cell? ⟨gb240,0,none⟩ = some (.string a0_0):=(kC_ BK240.out 0).trans rfl;have hcz16_1 : w15.cell? ⟨gb240,1,none⟩ = some (.slice A0_1 l0_1.length c0_1):=(kC_ BK240.out 1).trans rfl;have hcz16_2 : w15.cell? ⟨gb240,2,none⟩ = some (.slice A0_2 l0_2.length c0_2):=(kC_ BK240.out 2).trans rfl;have hcz16_3 : w15.cell? ⟨gb240,3,none⟩ = some (.slice A0_3 l0_3.length c0_3):=(kC_ BK240.out 3).trans rfl;have hfz16_0:=kF_ BK240.out 0;have hfz16_1:=kF_ BK240.out 1;have hfz16_2:=kF_ BK240.out 2;have hfz16_3:=kF_ BK240.out 3))
     repeat (go_quiet (first | ((with_reducible refine gate_dst (N:=1) rfl ?_);refine box_event ?hg (N:=1) ?hd (cs:=#[.string a0_0,.slice A0_1 l0_1.length c0_1,.slice A0_2 l0_2.length c0_2,.slice A0_3 l0_3.length c0_3]) (t:=35) ?hr ?_;(case hd=>rfl);(case hg=>rfl);(case hr=>first | (go_simp;done) | (go_simp;rfl));intro gb240 hg w9 hbox hb;have n0_:=aM_ (bT_ (by exact bZ_ HB) hb);have n1_:=aM_ (hbox);have n2_:=aM_ ((by rw [hg];exact (bS_ (by exact bZ_ HB)) : w.heap.size ≤ gb240));have n3_:=aM_ ((by rw [hg];exact (bS_ (by exact bZ_ HB)) : w.heap.size ≤ gb240));clear HB;have HB:=n0_;have BK240:=n1_;have GW240:=n2_;have GE240:=n3_;clear n0_ n1_ n2_ n3_ hb hbox hg;have hcz10_0 : w9.cell? ⟨gb240,0,none⟩ = some (.string a0_0):=(kC_ BK240.out 0).trans rfl;have hcz10_1 : w9.cell? ⟨gb240,1,none⟩ = some (.slice A0_1 l0_1.length c0_1):=(kC_ BK240.out 1).trans rfl;have hcz10_2 : w9.cell? ⟨gb240,2,none⟩ = some (.slice A0_2 l0_2.length c0_2):=(kC_ BK240.out 2).trans rfl;have hcz10_3 : w9.cell? ⟨gb240,3,none⟩ = some (.slice A0_3 l0_3.length c0_3):=(kC_ BK240.out 3).trans rfl;have hfz10_0:=kF_ BK240.out 0;have hfz10_1:=kF_ BK240.out 1;have hfz10_2:=kF_ BK240.out 2;have hfz10_3:=kF_ BK240.out 3) | (go_at_call 60;(with_reducible refine (spec_l9Names.calls k a0_0 _ _ l0_1 _ _ l0_2 _ _ l0_3 true _ ?side1 ?side2 ?side3 ?side4 ?side5 ?side6 A2.out).mono ?_);(case side1=>exact cZ_ HR0_1 HB);(case side2=>exact HC0_1.out);(case side3=>exact cZ_ HR0_2 HB);(case side4=>exact HC0_2.out);(case side5=>exact cZ_ HR0_3 HB);(case side6=>exact HC0_3.out);rintro e w11 ⟨rfl,hb⟩;have n0_:=aM_ (blk_below (g:=gb240) (o:=.cells #[.string a0_0,.slice A0_1 l0_1.length c0_1,.slice A0_2 l0_2.length c0_2,.slice A0_3 l0_3.length c0_3] 35 (0,0)) (by exact kZ_ BK240) hb);have n1_:=aM_ (bT_ (by exact bZ_ HB) hb);clear BK240 HB;have BK240:=n0_;have HB:=n1_;clear n0_ n1_;(try clear hb);(try clear hb2);(try clear hk);(try clear hi);have hcz12_0 : w11.cell? ⟨gb240,0,none⟩ = some (.string a0_0):=(kC_ BK240.out 0).trans rfl;have hcz12_1 : w11.cell? ⟨gb240,1,none⟩ = some (.slice A0_1 l0_1.length c0_1):=(kC_ BK240.out 1).trans rfl;have hcz12_2 : w11.cell? ⟨gb240,2,none⟩ = some (.slice A0_2 l0_2.length c0_2):=(kC_ BK240.out 2).trans rfl;have hcz12_3 : w11.cell? ⟨gb240,3,none⟩ = some (.slice A0_3 l0_3.length c0_3):=(kC_ BK240.out 3).trans rfl;have hfz12_0:=kF_ BK240.out 0;have hfz12_1:=kF_ BK240.out 1;have hfz12_2:=kF_ BK240.out 2;have hfz12_3:=kF_ BK240.out 3) | (go_at_call 61;(with_reducible refine (spec_l9Types.calls k a0_0 _ _ l0_1 _ _ l0_2 _ _ l0_3 true _ ?side1 ?side2 ?side3 ?side4 ?side5 ?side6 A4.out).mono ?_);(case side1=>exact cZ_ HR0_1 HB);(case side2=>exact HC0_1.out);(case side3=>exact cZ_ HR0_2 HB);(case side4=>exact HC0_2.out);(case side5=>exact cZ_ HR0_3 HB);(case side6=>exact HC0_3.out);rintro e w13 ⟨rfl,hb⟩;have n0_:=aM_ (blk_below (g:=gb240) (o:=.cells #[.string a0_0,.slice A0_1 l0_1.length c0_1,.slice A0_2 l0_2.length c0_2,.slice A0_3 l0_3.length c0_3] 35 (0,0)) (by exact kZ_ BK240) hb);have n1_:=aM_ (bT_ (by exact bZ_ HB) hb);clear BK240 HB;have BK240:=n0_;have HB:=n1_;clear n0_ n1_;(try clear hb);(try clear hb2);(try clear hk);(try clear hi);have hcz14_0 : w13.cell? ⟨gb240,0,none⟩ = some (.string a0_0):=(kC_ BK240.out 0).trans rfl;have hcz14_1 : w13.cell? ⟨gb240,1,none⟩ = some (.slice A0_1 l0_1.length c0_1):=(kC_ BK240.out 1).trans rfl;have hcz14_2 : w13.cell? ⟨gb240,2,none⟩ = some (.slice A0_2 l0_2.length c0_2):=(kC_ BK240.out 2).trans rfl;have hcz14_3 : w13.cell? ⟨gb240,3,none⟩ = some (.slice A0_3 l0_3.length c0_3):=(kC_ BK240.out 3).trans rfl;have hfz14_0:=kF_ BK240.out 0;have hfz14_1:=kF_ BK240.out 1;have hfz14_2:=kF_ BK240.out 2;have hfz14_3:=kF_ BK240.out 3) | (go_at_call 62;(with_reducible refine (spec_l9Once.calls k a0_0 _ _ l0_1 _ _ l0_2 _ _ l0_3 true _ ?side1 ?side2 ?side3 ?side4 ?side5 ?side6 A6.out).mono ?_);(case side1=>exact cZ_ HR0_1 HB);(case side2=>exact HC0_1.out);(case side3=>exact cZ_ HR0_2 HB);(case side4=>exact HC0_2.out);(case side5=>exact cZ_ HR0_3 HB);(case side6=>exact HC0_3.out);rintro e w15 ⟨rfl,hb⟩;have n0_:=aM_ (blk_below (g:=gb240) (o:=.cells #[.string a0_0,.slice A0_1 l0_1.length c0_1,.slice A0_2 l0_2.length c0_2,.slice A0_3 l0_3.length c0_3] 35 (0,0)) (by exact kZ_ BK240) hb);have n1_:=aM_ (bT_ (by exact bZ_ HB) hb);clear BK240 HB;have BK240:=n0_;have HB:=n1_;clear n0_ n1_;(try clear hb);(try clear hb2);(try clear hk);(try clear hi);have hcz16_0 : w15.cell? ⟨gb240,0,none⟩ = some (.string a0_0):=(kC_ BK240.out 0).trans rfl;have hcz16_1 : w15.cell? ⟨gb240,1,none⟩ = some (.slice A0_1 l0_1.length c0_1):=(kC_ BK240.out 1).trans rfl;have hcz16_2 : w15.cell? ⟨gb240,2,none⟩ = some (.slice A0_2 l0_2.length c0_2):=(kC_ BK240.out 2).trans rfl;have hcz16_3 : w15.cell? ⟨gb240,3,none⟩ = some (.slice A0_3 l0_3.length c0_3):=(kC_ BK240.out 3).trans rfl;have hfz16_0:=kF_ BK240.out 0;have hfz16_1:=kF_ BK240.out 1;have hfz16_2:=kF_ BK240.out 2;have hfz16_3:=kF_ BK240.out 3));try go_wp2_with (first | ((with_reducible refine gate_dst (N:=1) rfl ?_);refine box_event ?hg (N:=1) ?hd (cs:=#[.string a0_0,.slice A0_1 l0_1.length c0_1,.slice A0_2 l0_2.length c0_2,.slice A0_3 l0_3.length c0_3]) (t:=35) ?hr ?_;(case hd=>rfl);(case hg=>rfl);(case hr=>first | (go_simp;done) | (go_simp;rfl));intro gb240 hg w9 hbox hb;have n0_:=aM_ (bT_ (by exact bZ_ HB) hb);have n1_:=aM_ (hbox);have n2_:=aM_ ((by rw [hg];exact (bS_ (by exact bZ_ HB)) : w.heap.size ≤ gb240));have n3_:=aM_ ((by rw [hg];exact (bS_ (by exact bZ_ HB)) : w.heap.size ≤ gb240));clear HB;have HB:=n0_;have BK240:=n1_;have GW240:=n2_;have GE240:=n3_;clear n0_ n1_ n2_ n3_ hb hbox hg;have hcz10_0 : w9.cell? ⟨gb240,0,none⟩ = some (.string a0_0):=(kC_ BK240.out 0).trans rfl;have hcz10_1 : w9.cell? ⟨gb240,1,none⟩ = some (.slice A0_1 l0_1.length c0_1):=(kC_ BK240.out 1).trans rfl;have hcz10_2 : w9.cell? ⟨gb240,2,none⟩ = some (.slice A0_2 l0_2.length c0_2):=(kC_ BK240.out 2).trans rfl;have hcz10_3 : w9.cell? ⟨gb240,3,none⟩ = some (.slice A0_3 l0_3.length c0_3):=(kC_ BK240.out 3).trans rfl;have hfz10_0:=kF_ BK240.out 0;have hfz10_1:=kF_ BK240.out 1;have hfz10_2:=kF_ BK240.out 2;have hfz10_3:=kF_ BK240.out 3) | (go_at_call 60;(with_reducible refine (spec_l9Names.calls k a0_0 _ _ l0_1 _ _ l0_2 _ _ l0_3 true _ ?side1 ?side2 ?side3 ?side4 ?side5 ?side6 A2.out).mono ?_);(case side1=>exact cZ_ HR0_1 HB);(case side2=>exact HC0_1.out);(case side3=>exact cZ_ HR0_2 HB);(case side4=>exact HC0_2.out);(case side5=>exact cZ_ HR0_3 HB);(case side6=>exact HC0_3.out);rintro e w11 ⟨rfl,hb⟩;have n0_:=aM_ (blk_below (g:=gb240) (o:=.cells #[.string a0_0,.slice A0_1 l0_1.length c0_1,.slice A0_2 l0_2.length c0_2,.slice A0_3 l0_3.length c0_3] 35 (0,0)) (by exact kZ_ BK240) hb);have n1_:=aM_ (bT_ (by exact bZ_ HB) hb);clear BK240 HB;have BK240:=n0_;have HB:=n1_;clear n0_ n1_;(try clear hb);(try clear hb2);(try clear hk);(try clear hi);have hcz12_0 : w11.cell? ⟨gb240,0,none⟩ = some (.string a0_0):=(kC_ BK240.out 0).trans rfl;have hcz12_1 : w11.cell? ⟨gb240,1,none⟩ = some (.slice A0_1 l0_1.length c0_1):=(kC_ BK240.out 1).trans rfl;have hcz12_2 : w11.cell? ⟨gb240,2,none⟩ = some (.slice A0_2 l0_2.length c0_2):=(kC_ BK240.out 2).trans rfl;have hcz12_3 : w11.cell? ⟨gb240,3,none⟩ = some (.slice A0_3 l0_3.length c0_3):=(kC_ BK240.out 3).trans rfl;have hfz12_0:=kF_ BK240.out 0;have hfz12_1:=kF_ BK240.out 1;have hfz12_2:=kF_ BK240.out 2;have hfz12_3:=kF_ BK240.out 3) | (go_at_call 61;(with_reducible refine (spec_l9Types.calls k a0_0 _ _ l0_1 _ _ l0_2 _ _ l0_3 true _ ?side1 ?side2 ?side3 ?side4 ?side5 ?side6 A4.out).mono ?_);(case side1=>exact cZ_ HR0_1 HB);(case side2=>exact HC0_1.out);(case side3=>exact cZ_ HR0_2 HB);(case side4=>exact HC0_2.out);(case side5=>exact cZ_ HR0_3 HB);(case side6=>exact HC0_3.out);rintro e w13 ⟨rfl,hb⟩;have n0_:=aM_ (blk_below (g:=gb240) (o:=.cells #[.string a0_0,.slice A0_1 l0_1.length c0_1,.slice A0_2 l0_2.length c0_2,.slice A0_3 l0_3.length c0_3] 35 (0,0)) (by exact kZ_ BK240) hb);have n1_:=aM_ (bT_ (by exact bZ_ HB) hb);clear BK240 HB;have BK240:=n0_;have HB:=n1_;clear n0_ n1_;(try clear hb);(try clear hb2);(try clear hk);(try clear hi);have hcz14_0 : w13.cell? ⟨gb240,0,none⟩ = some (.string a0_0):=(kC_ BK240.out 0).trans rfl;have hcz14_1 : w13.cell? ⟨gb240,1,none⟩ = some (.slice A0_1 l0_1.length c0_1):=(kC_ BK240.out 1).trans rfl;have hcz14_2 : w13.cell? ⟨gb240,2,none⟩ = some (.slice A0_2 l0_2.length c0_2):=(kC_ BK240.out 2).trans rfl;have hcz14_3 : w13.cell? ⟨gb240,3,none⟩ = some (.slice A0_3 l0_3.length c0_3):=(kC_ BK240.out 3).trans rfl;have hfz14_0:=kF_ BK240.out 0;have hfz14_1:=kF_ BK240.out 1;have hfz14_2:=kF_ BK240.out 2;have hfz14_3:=kF_ BK240.out 3) | (go_at_call 62;(with_reducible refine (spec_l9Once.calls k a0_0 _ _ l0_1 _ _ l0_2 _ _ l0_3 true _ ?side1 ?side2 ?side3 ?side4 ?side5 ?side6 A6.out).mono ?_);(case side1=>exact cZ_ HR0_1 HB);(case side2=>exact HC0_1.out);(case side3=>exact cZ_ HR0_2 HB);(case side4=>exact HC0_2.out);(case side5=>exact cZ_ HR0_3 HB);(case side6=>exact HC0_3.out);rintro e w15 ⟨rfl,hb⟩;have n0_:=aM_ (blk_below (g:=gb240) (o:=.cells #[.string a0_0,.slice A0_1 l0_1.length c0_1,.slice A0_2 l0_2.length c0_2,.slice A0_3 l0_3.length c0_3] 35 (0,0)) (by exact kZ_ BK240) hb);have n1_:=aM_ (bT_ (by exact bZ_ HB) hb);clear BK240 HB;have BK240:=n0_;have HB:=n1_;clear n0_ n1_;(try clear hb);(try clear hb2);(try clear hk);(try clear hi);have hcz16_0 : w15.cell? ⟨gb240,0,none⟩ = some (.string a0_0):=(kC_ BK240.out 0).trans rfl;have hcz16_1 : w15.cell? ⟨gb240,1,none⟩ = some (.slice A0_1 l0_1.length c0_1):=(kC_ BK240.out 1).trans rfl;have hcz16_2 : w15.cell? ⟨gb240,2,none⟩ = some (.slice A0_2 l0_2.length c0_2):=(kC_ BK240.out 2).trans rfl;have hcz16_3 : w15.cell? ⟨gb240,3,none⟩ = some (.slice A0_3 l0_3.length c0_3):=(kC_ BK240.out 3).trans rfl;have hfz16_0:=kF_ BK240.out 0;have hfz16_1:=kF_ BK240.out 1;have hfz16_2:=kF_ BK240.out 2;have hfz16_3:=kF_ BK240.out 3)))
     go_ret
     exact ⟨by first | rfl | (simp [errW_none,errW_some] <;> rfl) | (simp [*, errW_none,errW_some] <;> rfl),by exact bZ_ HB⟩
    ·rw [if_neg c8] at H
     have c8b0 : decide (2 < (l0_3.length : Int)) = false:=decide_eq_false c8
     have c8b1 : decide (2 < l0_3.length) = false:=decide_eq_false (by omega)
     clear c8
     replace H:=oB_ H
     obtain ⟨t244,A170,H⟩:=H
     replace H : (if t244 = true then (spec_CheckDef.l0 k 0 a0_0 l0_1 l0_2 l0_3) else (some 5)) = some r:=H
     have A17:=aM_ A170
     clear A170
     by_cases c18 : t244 = true
     ·subst c18
      have H1 : (spec_CheckDef.l0 k 0 a0_0 l0_1 l0_2 l0_3) = some r:=by rw [if_pos rfl] at H;exact H
      clear H
      have H:=H1
      clear H1
      have H':=aM_ H
      clear H
      go_enter Tryd.func23,Tryd.ntmps23
      go_wp2_with (first | ((with_reducible refine gate_dst (N:=1) rfl ?_);refine box_event ?hg (N:=1) ?hd (cs:=#[.string a0_0,.slice A0_1 l0_1.length c0_1,.slice A0_2 l0_2.length c0_2,.slice A0_3 l0_3.length c0_3]) (t:=35) ?hr ?_;(case hd=>rfl);(case hg=>rfl);(case hr=>first | (go_simp;done) | (go_simp;rfl));intro gb240 hg w19 hbox hb;have n0_:=aM_ (bT_ (by exact bZ_ HB) hb);have n1_:=aM_ (hbox);have n2_:=aM_ ((by rw [hg];exact (bS_ (by exact bZ_ HB)) : w.heap.size ≤ gb240));have n3_:=aM_ ((by rw [hg];exact (bS_ (by exact bZ_ HB)) : w.heap.size ≤ gb240));clear HB;have HB:=n0_;have BK240:=n1_;have GW240:=n2_;have GE240:=n3_;clear n0_ n1_ n2_ n3_ hb hbox hg;have hcz20_0 : w19.cell? ⟨gb240,0,none⟩ = some (.string a0_0):=(kC_ BK240.out 0).trans rfl;have hcz20_1 : w19.cell? ⟨gb240,1,none⟩ = some (.slice A0_1 l0_1.length c0_1):=(kC_ BK240.out 1).trans rfl;have hcz20_2 : w19.cell? ⟨gb240,2,none⟩ = some (.slice A0_2 l0_2.length c0_2):=(kC_ BK240.out 2).trans rfl;have hcz20_3 : w19.cell? ⟨gb240,3,none⟩ = some (.slice A0_3 l0_3.length c0_3):=(kC_ BK240.out 3).trans rfl;have hfz20_0:=kF_ BK240.out 0;have hfz20_1:=kF_ BK240.out 1;have hfz20_2:=kF_ BK240.out 2;have hfz20_3:=kF_ BK240.out 3) | (go_at_call 60;(with_reducible refine (spec_l9Names.calls k a0_0 _ _ l0_1 _ _ l0_2 _ _ l0_3 true _ ?side1 ?side2 ?side3 ?side4 ?side5 ?side6 A2.out).mono ?_);(case side1=>exact cZ_ HR0_1 HB);(case side2=>exact HC0_1.out);(case side3=>exact cZ_ HR0_2 HB);(case side4=>exact HC0_2.out);(case side5=>exact cZ_ HR0_3 HB);(case side6=>exact HC0_3.out);rintro e w21 ⟨rfl,hb⟩;have n0_:=aM_ (blk_below (g:=gb240) (o:=.cells #[.string a0_0,.slice A0_1 l0_1.length c0_1,.slice A0_2 l0_2.length c0_2,.slice A0_3 l0_3.length c0_3] 35 (0,0)) (by exact kZ_ BK240) hb);have n1_:=aM_ (bT_ (by exact bZ_ HB) hb);clear BK240 HB;have BK240:=n0_;have HB:=n1_;clear n0_ n1_ hb;have hcz22_0 : w21.cell? ⟨gb240,0,none⟩ = some (.string a0_0):=(kC_ BK240.out 0).trans rfl;have hcz22_1 : w21.cell? ⟨gb240,1,none⟩ = some (.slice A0_1 l0_1.length c0_1):=(kC_ BK240.out 1).trans rfl;have hcz22_2 : w21.cell? ⟨gb240,2,none⟩ = some (.slice A0_2 l0_2.length c0_2):=(kC_ BK240.out 2).trans rfl;have hcz22_3 : w21.cell? ⟨gb240,3,none⟩ = some (.slice A0_3 l0_3.length c0_3):=(kC_ BK240.out 3).trans rfl;have hfz22_0:=kF_ BK240.out 0;have hfz22_1:=kF_ BK240.out 1;have hfz22_2:=kF_ BK240.out 2;have hfz22_3:=kF_ BK240.out 3) | (go_at_call 61;(with_reducible refine (spec_l9Types.calls k a0_0 _ _ l0_1 _ _ l0_2 _ _ l0_3 true _ ?side1 ?side2 ?side3 ?side4 ?side5 ?side6 A4.out).mono ?_);(case side1=>exact cZ_ HR0_1 HB);(case side2=>exact HC0_1.out);(case side3=>exact cZ_ HR0_2 HB);(case side4=>exact HC0_2.out);(case side5=>exact cZ_ HR0_3 HB);(case side6=>exact HC0_3.out);rintro e w23 ⟨rfl,hb⟩;have n0_:=aM_ (blk_below (g:=gb240) (o:=.cells #[.string a0_0,.slice A0_1 l0_1.length c0_1,.slice A0_2 l0_2.length c0_2,.slice A0_3 l0_3.length c0_3] 35 (0,0)) (by exact kZ_ BK240) hb);have n1_:=aM_ (bT_ (by exact bZ_ HB) hb);clear BK240 HB;have BK240:=n0_;have HB:=n1_;clear n0_ n1_ hb;have hcz24_0 : w23.cell? ⟨gb240,0,none⟩ = some (.string a0_0):=(kC_ BK240.out 0).trans rfl;have hcz24_1 : w23.cell? ⟨gb240,1,none⟩ = some (.slice A0_1 l0_1.length c0_1):=(kC_ BK240.out 1).trans rfl;have hcz24_2 : w23.cell? ⟨gb240,2,none⟩ = some (.slice A0_2 l0_2.length c0_2):=(kC_ BK240.out 2).trans rfl;have hcz24_3 : w23.cell? ⟨gb240,3,none⟩ = some (.slice A0_3 l0_3.length c0_3):=(kC_ BK240.out 3).trans rfl;have hfz24_0:=kF_ BK240.out 0;have hfz24_1:=kF_ BK240.out 1;have hfz24_2:=kF_ BK240.out 2;have hfz24_3:=kF_ BK240.out 3) | (go_at_call 62;(with_reducible refine (spec_l9Once.calls k a0_0 _ _ l0_1 _ _ l0_2 _ _ l0_3 true _ ?side1 ?side2 ?side3 ?side4 ?side5 ?side6 A6.out).mono ?_);(case side1=>exact cZ_ HR0_1 HB);(case side2=>exact HC0_1.out);(case side3=>exact cZ_ HR0_2 HB);(case side4=>exact HC0_2.out);(case side5=>exact cZ_ HR0_3 HB);(case side6=>exact HC0_3.out);rintro e w25 ⟨rfl,hb⟩;have n0_:=aM_ (blk_below (g:=gb240) (o:=.cells #[.string a0_0,.slice A0_1 l0_1.length c0_1,.slice A0_2 l0_2.length c0_2,.slice A0_3 l0_3.length c0_3] 35 (0,0)) (by exact kZ_ BK240) hb);have n1_:=aM_ (bT_ (by exact bZ_ HB) hb);clear BK240 HB;have BK240:=n0_;have HB:=n1_;clear n0_ n1_ hb;have hcz26_0 : w25.cell? ⟨gb240,0,none⟩ = some (.string a0_0):=(kC_ BK240.out 0).trans rfl;have hcz26_1 : w25.cell? ⟨gb240,1,none⟩ = some (.slice A0_1 l0_1.length c0_1):=(kC_ BK240.out 1).trans rfl;have hcz26_2 : w25.cell? ⟨gb240,2,none⟩ = some (.slice A0_2 l0_2.length c0_2):=(kC_ BK240.out 2).trans rfl;have hcz26_3 : w25.cell? ⟨gb240,3,none⟩ = some (.slice A0_3 l0_3.length c0_3):=(kC_ BK240.out 3).trans rfl;have hfz26_0:=kF_ BK240.out 0;have hfz26_1:=kF_ BK240.out 1;have hfz26_2:=kF_ BK240.out 2;have hfz26_3:=kF_ BK240.out 3) | (go_at_call 63;(with_reducible refine (spec_l9AllParts.calls k a0_0 _ _ l0_1 _ _ l0_2 _ _ l0_3 true _ ?side1 ?side2 ?side3 ?side4 ?side5 ?side6 A17.out).mono ?_);(case side1=>exact cZ_ HR0_1 HB);(case side2=>exact HC0_1.out);(case side3=>exact cZ_ HR0_2 HB);(case side4=>exact HC0_2.out);(case side5=>exact cZ_ HR0_3 HB);(case side6=>exact HC0_3.out);rintro e w27 ⟨rfl,hb⟩;have n0_:=aM_ (blk_below (g:=gb240) (o:=.cells #[.string a0_0,.slice A0_1 l0_1.length c0_1,.slice A0_2 l0_2.length c0_2,.slice A0_3 l0_3.length c0_3] 35 (0,0)) (by exact kZ_ BK240) hb);have n1_:=aM_ (bT_ (by exact bZ_ HB) hb);clear BK240 HB;have BK240:=n0_;have HB:=n1_;clear n0_ n1_ hb))
      repeat (go_quiet (first | ((with_reducible refine gate_dst (N:=1) rfl ?_);refine box_event ?hg (N:=1) ?hd (cs:=#[.string a0_0,.slice A0_1 l0_1.length c0_1,.slice A0_2 l0_2.length c0_2,.slice A0_3 l0_3.length c0_3]) (t:=35) ?hr ?_;(case hd=>rfl);(case hg=>rfl);(case hr=>first | (go_simp;done) | (go_simp;rfl));intro gb240 hg w19 hbox hb;have n0_:=aM_ (bT_ (by exact bZ_ HB) hb);have n1_:=aM_ (hbox);have n2_:=aM_ ((by rw [hg];exact (bS_ (by exact bZ_ HB)) : w.heap.size ≤ gb240));have n3_:=aM_ ((by rw [hg];exact (bS_ (by exact bZ_ HB)) : w.heap.size ≤ gb240));clear HB;have HB:=n0_;have BK240:=n1_;have GW240:=n2_;have GE240:=n3_;clear n0_ n1_ n2_ n3_ hb hbox hg;have hcz20_0 : w19.cell? ⟨gb240,0,none⟩ = some (.string a0_0):=(kC_ BK240.out 0).trans rfl;have hcz20_1 : w19.cell? ⟨gb240,1,none⟩ = some (.slice A0_1 l0_1.length c0_1):=(kC_ BK240.out 1).trans rfl;have hcz20_2 : w19.cell? ⟨gb240,2,none⟩ = some (.slice A0_2 l0_2.length c0_2):=(kC_ BK240.out 2).trans rfl;have hcz20_3 : w19.cell? ⟨gb240,3,none⟩ = some (.slice A0_3 l0_3.length c0_3):=(kC_ BK240.out 3).trans rfl;have hfz20_0:=kF_ BK240.out 0;have hfz20_1:=kF_ BK240.out 1;have hfz20_2:=kF_ BK240.out 2;have hfz20_3:=kF_ BK240.out 3) | (go_at_call 60;(with_reducible refine (spec_l9Names.calls k a0_0 _ _ l0_1 _ _ l0_2 _ _ l0_3 true _ ?side1 ?side2 ?side3 ?side4 ?side5 ?side6 A2.out).mono ?_);(case side1=>exact cZ_ HR0_1 HB);(case side2=>exact HC0_1.out);(case side3=>exact cZ_ HR0_2 HB);(case side4=>exact HC0_2.out);(case side5=>exact cZ_ HR0_3 HB);(case side6=>exact HC0_3.out);rintro e w21 ⟨rfl,hb⟩;have n0_:=aM_ (blk_below (g:=gb240) (o:=.cells #[.string a0_0,.slice A0_1 l0_1.length c0_1,.slice A0_2 l0_2.length c0_2,.slice A0_3 l0_3.length c0_3] 35 (0,0)) (by exact kZ_ BK240) hb);have n1_:=aM_ (bT_ (by exact bZ_ HB) hb);clear BK240 HB;have BK240:=n0_;have HB:=n1_;clear n0_ n1_;(try clear hb);(try clear hb2);(try clear hk);(try clear hi);have hcz22_0 : w21.cell? ⟨gb240,0,none⟩ = some (.string a0_0):=(kC_ BK240.out 0).trans rfl;have hcz22_1 : w21.cell? ⟨gb240,1,none⟩ = some (.slice A0_1 l0_1.length c0_1):=(kC_ BK240.out 1).trans rfl;have hcz22_2 : w21.cell? ⟨gb240,2,none⟩ = some (.slice A0_2 l0_2.length c0_2):=(kC_ BK240.out 2).trans rfl;have hcz22_3 : w21.cell? ⟨gb240,3,none⟩ = some (.slice A0_3 l0_3.length c0_3):=(kC_ BK240.out 3).trans rfl;have hfz22_0:=kF_ BK240.out 0;have hfz22_1:=kF_ BK240.out 1;have hfz22_2:=kF_ BK240.out 2;have hfz22_3:=kF_ BK240.out 3) | (go_at_call 61;(with_reducible refine (spec_l9Types.calls k a0_0 _ _ l0_1 _ _ l0_2 _ _ l0_3 true _ ?side1 ?side2 ?side3 ?side4 ?side5 ?side6 A4.out).mono ?_);(case side1=>exact cZ_ HR0_1 HB);(case side2=>exact HC0_1.out);(case side3=>exact cZ_ HR0_2 HB);(case side4=>exact HC0_2.out);(case side5=>exact cZ_ HR0_3 HB);(case side6=>exact HC0_3.out);rintro e w23 ⟨rfl,hb⟩;have n0_:=aM_ (blk_below (g:=gb240) (o:=.cells #[.string a0_0,.slice A0_1 l0_1.length c0_1,.slice A0_2 l0_2.length c0_2,.slice A0_3 l0_3.length c0_3] 35 (0,0)) (by exact kZ_ BK240) hb);have n1_:=aM_ (bT_ (by exact bZ_ HB) hb);clear BK240 HB;have BK240:=n0_;have HB:=n1_;clear n0_ n1_;(try clear hb);(try clear hb2);(try clear hk);(try clear hi);have hcz24_0 : w23.cell? ⟨gb240,0,none⟩ = some (.string a0_0):=(kC_ BK240.out 0).trans rfl;have hcz24_1 : w23.cell? ⟨gb240,1,none⟩ = some (.slice A0_1 l0_1.length c0_1):=(kC_ BK240.out 1).trans rfl;have hcz24_2 : w23.cell? ⟨gb240,2,none⟩ = some (.slice A0_2 l0_2.length c0_2):=(kC_ BK240.out 2).trans rfl;have hcz24_3 : w23.cell? ⟨gb240,3,none⟩ = some (.slice A0_3 l0_3.length c0_3):=(kC_ BK240.out 3).trans rfl;have hfz24_0:=kF_ BK240.out 0;have hfz24_1:=kF_ BK240.out 1;have hfz24_2:=kF_ BK240.out 2;have hfz24_3:=kF_ BK240.out 3) | (go_at_call 62;(with_reducible refine (spec_l9Once.calls k a0_0 _ _ l0_1 _ _ l0_2 _ _ l0_3 true _ ?side1 ?side2 ?side3 ?side4 ?side5 ?side6 A6.out).mono ?_);(case side1=>exact cZ_ HR0_1 HB);(case side2=>exact HC0_1.out);(case side3=>exact cZ_ HR0_2 HB);(case side4=>exact HC0_2.out);(case side5=>exact cZ_ HR0_3 HB);(case side6=>exact HC0_3.out);rintro e w25 ⟨rfl,hb⟩;have n0_:=aM_ (blk_below (g:=gb240) (o:=.cells #[.string a0_0,.slice A0_1 l0_1.length c0_1,.slice A0_2 l0_2.length c0_2,.slice A0_3 l0_3.length c0_3] 35 (0,0)) (by exact kZ_ BK240) hb);have n1_:=aM_ (bT_ (by exact bZ_ HB) hb);clear BK240 HB;have BK240:=n0_;have HB:=n1_;clear n0_ n1_;(try clear hb);(try clear hb2);(try clear hk);(try clear hi);have hcz26_0 : w25.cell? ⟨gb240,0,none⟩ = some (.string a0_0):=(kC_ BK240.out 0).trans rfl;have hcz26_1 : w25.cell? ⟨gb240,1,none⟩ = some (.slice A0_1 l0_1.length c0_1):=(kC_ BK240.out 1).trans rfl;have hcz26_2 : w25.cell? ⟨gb240,2,none⟩ = some (.slice A0_2 l0_2.length c0_2):=(kC_ BK240.out 2).trans rfl;have hcz26_3 : w25.cell? ⟨gb240,3,none⟩ = some (.slice A0_3 l0_3.length c0_3):=(kC_ BK240.out 3).trans rfl;have hfz26_0:=kF_ BK240.out 0;have hfz26_1:=kF_ BK240.out 1;have hfz26_2:=kF_ BK240.out 2;have hfz26_3:=kF_ BK240.out 3) | (go_at_call 63;(with_reducible refine (spec_l9AllParts.calls k a0_0 _ _ l0_1 _ _ l0_2 _ _ l0_3 true _ ?side1 ?side2 ?side3 ?side4 ?side5 ?side6 A17.out).mono ?_);(case side1=>exact cZ_ HR0_1 HB);(case side2=>exact HC0_1.out);(case side3=>exact cZ_ HR0_2 HB);(case side4=>exact HC0_2.out);(case side5=>exact cZ_ HR0_3 HB);(case side6=>exact HC0_3.out);rintro e w27 ⟨rfl,hb⟩;have n0_:=aM_ (blk_below (g:=gb240) (o:=.cells #[.string a0_0,.slice A0_1 l0_1.length c0_1,.slice A0_2 l0_2.length c0_2,.slice A0_3 l0_3.length c0_3] 35 (0,0)) (by exact kZ_ BK240) hb);have n1_:=aM_ (bT_ (by exact bZ_ HB) hb);clear BK240 HB;have BK240:=n0_;have HB:=n1_;clear n0_ n1_;(try clear hb);(try clear hb2);(try clear hk);(try clear hi)));try go_wp2_with (first | ((with_reducible refine gate_dst (N:=1) rfl ?_);refine box_event ?hg (N:=1) ?hd (cs:=#[.string a0_0,.slice A0_1 l0_1.length c0_1,.slice A0_2 l0_2.length c0_2,.slice A0_3 l0_3.length c0_3]) (t:=35) ?hr ?_;(case hd=>rfl);(case hg=>rfl);(case hr=>first | (go_simp;done) | (go_simp;rfl));intro gb240 hg w19 hbox hb;have n0_:=aM_ (bT_ (by exact bZ_ HB) hb);have n1_:=aM_ (hbox);have n2_:=aM_ ((by rw [hg];exact (bS_ (by exact bZ_ HB)) : w.heap.size ≤ gb240));have n3_:=aM_ ((by rw [hg];exact (bS_ (by exact bZ_ HB)) : w.heap.size ≤ gb240));clear HB;have HB:=n0_;have BK240:=n1_;have GW240:=n2_;have GE240:=n3_;clear n0_ n1_ n2_ n3_ hb hbox hg;have hcz20_0 : w19.cell? ⟨gb240,0,none⟩ = some (.string a0_0):=(kC_ BK240.out 0).trans rfl;have hcz20_1 : w19.cell? ⟨gb240,1,none⟩ = some (.slice A0_1 l0_1.length c0_1):=(kC_ BK240.out 1).trans rfl;have hcz20_2 : w19.cell? ⟨gb240,2,none⟩ = some (.slice A0_2 l0_2.length c0_2):=(kC_ BK240.out 2).trans rfl;have hcz20_3 : w19.cell? ⟨gb240,3,none⟩ = some (.slice A0_3 l0_3.length c0_3):=(kC_ BK240.out 3).trans rfl;have hfz20_0:=kF_ BK240.out 0;have hfz20_1:=kF_ BK240.out 1;have hfz20_2:=kF_ BK240.out 2;have hfz20_3:=kF_ BK240.out 3) | (go_at_call 60;(with_reducible refine (spec_l9Names.calls k a0_0 _ _ l0_1 _ _ l0_2 _ _ l0_3 true _ ?side1 ?side2 ?side3 ?side4 ?side5 ?side6 A2.out).mono ?_);(case side1=>exact cZ_ HR0_1 HB);(case side2=>exact HC0_1.out);(case side3=>exact cZ_ HR0_2 HB);(case side4=>exact HC0_2.out);(case side5=>exact cZ_ HR0_3 HB);(case side6=>exact HC0_3.out);rintro e w21 ⟨rfl,hb⟩;have n0_:=aM_ (blk_below (g:=gb240) (o:=.cells #[.string a0_0,.slice A0_1 l0_1.length c0_1,.slice A0_2 l0_2.length c0_2,.slice A0_3 l0_3.length c0_3] 35 (0,0)) (by exact kZ_ BK240) hb);have n1_:=aM_ (bT_ (by exact bZ_ HB) hb);clear BK240 HB;have BK240:=n0_;have HB:=n1_;clear n0_ n1_;(try clear hb);(try clear hb2);(try clear hk);(try clear hi);have hcz22_0 : w21.cell? ⟨gb240,0,none⟩ = some (.string a0_0):=(kC_ BK240.out 0).trans rfl;have hcz22_1 : w21.cell? ⟨gb240,1,none⟩ = some (.slice A0_1 l0_1.length c0_1):=(kC_ BK240.out 1).trans rfl;have hcz22_2 : w21.cell? ⟨gb240,2,none⟩ = some (.slice A0_2 l0_2.length c0_2):=(kC_ BK240.out 2).trans rfl;have hcz22_3 : w21.cell? ⟨gb240,3,none⟩ = some (.slice A0_3 l0_3.length c0_3):=(kC_ BK240.out 3).trans rfl;have hfz22_0:=kF_ BK240.out 0;have hfz22_1:=kF_ BK240.out 1;have hfz22_2:=kF_ BK240.out 2;have hfz22_3:=kF_ BK240.out 3) | (go_at_call 61;(with_reducible refine (spec_l9Types.calls k a0_0 _ _ l0_1 _ _ l0_2 _ _ l0_3 true _ ?side1 ?side2 ?side3 ?side4 ?side5 ?side6 A4.out).mono ?_);(case side1=>exact cZ_ HR0_1 HB);(case side2=>exact HC0_1.out);(case side3=>exact cZ_ HR0_2 HB);(case side4=>exact HC0_2.out);(case side5=>exact cZ_ HR0_3 HB);(case side6=>exact HC0_3.out);rintro e w23 ⟨rfl,hb⟩;have n0_:=aM_ (blk_below (g:=gb240) (o:=.cells #[.string a0_0,.slice A0_1 l0_1.length c0_1,.slice A0_2 l0_2.length c0_2,.slice A0_3 l0_3.length c0_3] 35 (0,0)) (by exact kZ_ BK240) hb);have n1_:=aM_ (bT_ (by exact bZ_ HB) hb);clear BK240 HB;have BK240:=n0_;have HB:=n1_;clear n0_ n1_;(try clear hb);(try clear hb2);(try clear hk);(try clear hi);have hcz24_0 : w23.cell? ⟨gb240,0,none⟩ = some (.string a0_0):=(kC_ BK240.out 0).trans rfl;have hcz24_1 : w23.cell? ⟨gb240,1,none⟩ = some (.slice A0_1 l0_1.length c0_1):=(kC_ BK240.out 1).trans rfl;have hcz24_2 : w23.cell? ⟨gb240,2,none⟩ = some (.slice A0_2 l0_2.length c0_2):=(kC_ BK240.out 2).trans rfl;have hcz24_3 : w23.cell? ⟨gb240,3,none⟩ = some (.slice A0_3 l0_3.length c0_3):=(kC_ BK240.out 3).trans rfl;have hfz24_0:=kF_ BK240.out 0;have hfz24_1:=kF_ BK240.out 1;have hfz24_2:=kF_ BK240.out 2;have hfz24_3:=kF_ BK240.out 3) | (go_at_call 62;(with_reducible refine (spec_l9Once.calls k a0_0 _ _ l0_1 _ _ l0_2 _ _ l0_3 true _ ?side1 ?side2 ?side3 ?side4 ?side5 ?side6 A6.out).mono ?_);(case side1=>exact cZ_ HR0_1 HB);(case side2=>exact HC0_1.out);(case side3=>exact cZ_ HR0_2 HB);(case side4=>exact HC0_2.out);(case side5=>exact cZ_ HR0_3 HB);(case side6=>exact HC0_3.out);rintro e w25 ⟨rfl,hb⟩;have n0_:=aM_ (blk_below (g:=gb240) (o:=.cells #[.string a0_0,.slice A0_1 l0_1.length c0_1,.slice A0_2 l0_2.length c0_2,.slice A0_3 l0_3.length c0_3] 35 (0,0)) (by exact kZ_ BK240) hb);have n1_:=aM_ (bT_ (by exact bZ_ HB) hb);clear BK240 HB;have BK240:=n0_;have HB:=n1_;clear n0_ n1_;(try clear hb);(try clear hb2);(try clear hk);(try clear hi);have hcz26_0 : w25.cell? ⟨gb240,0,none⟩ = some (.string a0_0):=(kC_ BK240.out 0).trans rfl;have hcz26_1 : w25.cell? ⟨gb240,1,none⟩ = some (.slice A0_1 l0_1.length c0_1):=(kC_ BK240.out 1).trans rfl;have hcz26_2 : w25.cell? ⟨gb240,2,none⟩ = some (.slice A0_2 l0_2.length c0_2):=(kC_ BK240.out 2).trans rfl;have hcz26_3 : w25.cell? ⟨gb240,3,none⟩ = some (.slice A0_3 l0_3.length c0_3):=(kC_ BK240.out 3).trans rfl;have hfz26_0:=kF_ BK240.out 0;have hfz26_1:=kF_ BK240.out 1;have hfz26_2:=kF_ BK240.out 2;have hfz26_3:=kF_ BK240.out 3) | (go_at_call 63;(with_reducible refine (spec_l9AllParts.calls k a0_0 _ _ l0_1 _ _ l0_2 _ _ l0_3 true _ ?side1 ?side2 ?side3 ?side4 ?side5 ?side6 A17.out).mono ?_);(case side1=>exact cZ_ HR0_1 HB);(case side2=>exact HC0_1.out);(case side3=>exact cZ_ HR0_2 HB);(case side4=>exact HC0_2.out);(case side5=>exact cZ_ HR0_3 HB);(case side6=>exact HC0_3.out);rintro e w27 ⟨rfl,hb⟩;have n0_:=aM_ (blk_below (g:=gb240) (o:=.cells #[.string a0_0,.slice A0_1 l0_1.length c0_1,.slice A0_2 l0_2.length c0_2,.slice A0_3 l0_3.length c0_3] 35 (0,0)) (by exact kZ_ BK240) hb);have n1_:=aM_ (bT_ (by exact bZ_ HB) hb);clear BK240 HB;have BK240:=n0_;have HB:=n1_;clear n0_ n1_;(try clear hb);(try clear hb2);(try clear hk);(try clear hi))))
      (try simp only [Act.put,sI_,sS_,sZ_])
      go_loopg [3] k (fun kq v3 w'=>∃ (x3_1 : Int),v3 = .int .i64 x3_1 ∧ Aside0 (spec_CheckDef.l0 kq x3_1 a0_0 l0_1 l0_2 l0_3 = some r) ∧ Aside0 (kq ≤ k) ∧ Aside0 (w'.heap[gb240]? = some (.cells #[.string a0_0,(.slice A0_1 l0_1.length c0_1),(.slice A0_2 l0_2.length c0_2),(.slice A0_3 l0_3.length c0_3)] 35 (0,0))) ∧ Aside0 (Below w.heap.size w w'))
      case atStart=>exact ⟨(0),(by first | rfl | (simp;done) | (simp [*];done)),H', ⟨Nat.le_refl _⟩,⟨by exact kZ_ BK240⟩,⟨by exact bZ_ HB⟩⟩
      case round =>
       clear H'
       clear c8b0 c8b1 hcz20_0 hcz20_1 hcz20_2 hcz20_3 hcz22_0 hcz22_1 hcz22_2 hcz22_3 hcz24_0 hcz24_1 hcz24_2 hcz24_3 hcz26_0 hcz26_1 hcz26_2 hcz26_3 hfz20_0 hfz20_1 hfz20_2 hfz20_3 hfz22_0 hfz22_1 hfz22_2 hfz22_3 hfz24_0 hfz24_1 hfz24_2 hfz24_3 hfz26_0 hfz26_1 hfz26_2 hfz26_3
       obtain ⟨x3_1,rfl,HA,HK1,BK240,HB⟩:=hrel
       cases gk with
       | zero=>exact absurd HA.out (by simp [spec_CheckDef.l0])
       | succ k1 =>
        have H:=HA.out
        clear HA
        simp only [spec_CheckDef.l0] at H
        by_cases c28 : x3_1 < (l0_2.length : Int)
        ·rw [if_pos c28] at H
         have c28b0 : decide (x3_1 < (l0_2.length : Int)) = true:=decide_eq_true c28
         clear c28
         by_cases c29 : 0 ≤ x3_1
         ·rw [if_pos c29] at H
          have c29b0 : decide (0 ≤ x3_1) = true:=decide_eq_true c29
          clear c29
          by_cases c30 : 0 ≤ ((rd_T85 l0_2 x3_1).f0)
          ·rw [if_pos c30] at H
           have c30b0 : decide (0 ≤ ((rd_T85 l0_2 x3_1).f0)) = true:=decide_eq_true c30
           clear c30
           by_cases c31 : ((rd_T85 l0_2 x3_1).f0) < (l0_1.length : Int)
           ·rw [if_pos c31] at H
            have c31b0 : decide (((rd_T85 l0_2 x3_1).f0) < (l0_1.length : Int)) = true:=decide_eq_true c31
            clear c31
            obtain ⟨bq32,hbq32⟩ : ∃ b_ : Bool,b_ = ((rd_T82 l0_1 ((rd_T85 l0_2 x3_1).f0)).f2):=⟨_,rfl⟩
            replace H : (if bq32 = true then (some 4) else (spec_CheckDef.l0 k1 (wrap64 (x3_1 + 1)) a0_0 l0_1 l0_2 l0_3)) = some r:=by rw [← hbq32] at H;exact H
            have Nbq32:=aM_ hbq32
            clear hbq32
            by_cases c33 : bq32 = true
            ·subst c33
             have H1 : (some 4) = some r:=by rw [if_pos rfl] at H;exact H
             clear H
             have H:=H1
             clear H1
             obtain rfl:=Option.some.inj H
             have hcz34_0 : wr.cell? ⟨gb240,0,none⟩ = some (.string a0_0):=(kC_ BK240.out 0).trans rfl
             have hcz34_1 : wr.cell? ⟨gb240,1,none⟩ = some (.slice A0_1 l0_1.length c0_1):=(kC_ BK240.out 1).trans rfl
             have hcz34_2 : wr.cell? ⟨gb240,2,none⟩ = some (.slice A0_2 l0_2.length c0_2):=(kC_ BK240.out 2).trans rfl
             have hcz34_3 : wr.cell? ⟨gb240,3,none⟩ = some (.slice A0_3 l0_3.length c0_3):=(kC_ BK240.out 3).trans rfl
             have hfz34_0:=kF_ BK240.out 0
             have hfz34_1:=kF_ BK240.out 1
             have hfz34_2:=kF_ BK240.out 2
             have hfz34_3:=kF_ BK240.out 3
             have p245 : 0 ≤ (x3_1 : Int):=oT_ (by first | (with_reducible assumption) | assumption)
             have q245 : x3_1 < (l0_2.length : Int):=oT_ (by first | (with_reducible assumption) | assumption)
             obtain ⟨ad245,e245,hx245_0,hx245_1⟩:=at_T85 HR0_2.out x3_1 p245 q245
             (try rw [← Nbq32.out] at hx245_1)
             cases e245
             replace hx245_0:=(HB.out.cell (wL_ w _ hx245_0)).trans hx245_0
             replace hx245_1:=(HB.out.cell (wL_ w _ hx245_1)).trans hx245_1
             replace p245:=eq_true p245
             replace q245:=eq_true q245
             have p246 : 0 ≤ (((rd_T85 l0_2 x3_1).f0) : Int):=oT_ (by first | (with_reducible assumption) | assumption)
             have q246 : ((rd_T85 l0_2 x3_1).f0) < (l0_1.length : Int):=oT_ (by first | (with_reducible assumption) | assumption)
             obtain ⟨ad246,e246,hx246_0,hx246_1,hx246_2⟩:=at_T82 HR0_1.out ((rd_T85 l0_2 x3_1).f0) p246 q246
             (try rw [← Nbq32.out] at hx246_2)
             cases e246
             replace hx246_0:=(HB.out.cell (wL_ w _ hx246_0)).trans hx246_0
             replace hx246_1:=(HB.out.cell (wL_ w _ hx246_1)).trans hx246_1
             replace hx246_2:=(HB.out.cell (wL_ w _ hx246_2)).trans hx246_2
             replace p246:=eq_true p246
             replace q246:=eq_true q246
             go_wp2
             repeat (go_quiet (fail);try go_wp2)
             go_ret
             exact ⟨by first | rfl | (simp [errW_none,errW_some] <;> rfl) | (simp [*, errW_none,errW_some] <;> rfl),by exact bZ_ HB⟩
            ·replace c33:=Bool.eq_false_iff.mpr c33
             subst c33
             have H1 : (spec_CheckDef.l0 k1 (wrap64 (x3_1 + 1)) a0_0 l0_1 l0_2 l0_3) = some r:=by rw [if_neg (show ¬ (false = true) by decide)] at H;exact H
             clear H
             have H:=H1
             clear H1
             have H':=aM_ H
             clear H
             have hcz35_0 : wr.cell? ⟨gb240,0,none⟩ = some (.string a0_0):=(kC_ BK240.out 0).trans rfl
             have hcz35_1 : wr.cell? ⟨gb240,1,none⟩ = some (.slice A0_1 l0_1.length c0_1):=(kC_ BK240.out 1).trans rfl
             have hcz35_2 : wr.cell? ⟨gb240,2,none⟩ = some (.slice A0_2 l0_2.length c0_2):=(kC_ BK240.out 2).trans rfl
             have hcz35_3 : wr.cell? ⟨gb240,3,none⟩ = some (.slice A0_3 l0_3.length c0_3):=(kC_ BK240.out 3).trans rfl
             have hfz35_0:=kF_ BK240.out 0
             have hfz35_1:=kF_ BK240.out 1
             have hfz35_2:=kF_ BK240.out 2
             have hfz35_3:=kF_ BK240.out 3
             have p245 : 0 ≤ (x3_1 : Int):=oT_ (by first | (with_reducible assumption) | assumption)
             have q245 : x3_1 < (l0_2.length : Int):=oT_ (by first | (with_reducible assumption) | assumption)
             obtain ⟨ad245,e245,hx245_0,hx245_1⟩:=at_T85 HR0_2.out x3_1 p245 q245
             (try rw [← Nbq32.out] at hx245_1)
             cases e245
             replace hx245_0:=(HB.out.cell (wL_ w _ hx245_0)).trans hx245_0
             replace hx245_1:=(HB.out.cell (wL_ w _ hx245_1)).trans hx245_1
             replace p245:=eq_true p245
             replace q245:=eq_true q245
             have p246 : 0 ≤ (((rd_T85 l0_2 x3_1).f0) : Int):=oT_ (by first | (with_reducible assumption) | assumption)
             have q246 : ((rd_T85 l0_2 x3_1).f0) < (l0_1.length : Int):=oT_ (by first | (with_reducible assumption) | assumption)
             obtain ⟨ad246,e246,hx246_0,hx246_1,hx246_2⟩:=at_T82 HR0_1.out ((rd_T85 l0_2 x3_1).f0) p246 q246
             (try rw [← Nbq32.out] at hx246_2)
             cases e246
             replace hx246_0:=(HB.out.cell (wL_ w _ hx246_0)).trans hx246_0
             replace hx246_1:=(HB.out.cell (wL_ w _ hx246_1)).trans hx246_1
             replace hx246_2:=(HB.out.cell (wL_ w _ hx246_2)).trans hx246_2
             replace p246:=eq_true p246
             replace q246:=eq_true q246
             go_wp2
             repeat (go_quiet (fail);try go_wp2)
             go_roundg k1
             case measure=>have:=HK1.out;omega
             case rel=>exact ⟨(wrap64 (x3_1 + 1)),(by first | rfl | (simp;done) | (simp [*];done)),H', ⟨by have:=HK1.out;omega⟩,⟨by exact kZ_ BK240⟩,⟨by exact bZ_ HB⟩⟩
           ·rw [if_neg c31] at H
            exact absurd H (by simp)
          ·rw [if_neg c30] at H
           exact absurd H (by simp)
         ·rw [if_neg c29] at H
          exact absurd H (by simp)
        ·rw [if_neg c28] at H
         have c28b0 : decide (x3_1 < (l0_2.length : Int)) = false:=decide_eq_false c28
         clear c28
         obtain rfl:=Option.some.inj H
         have hcz36_0 : wr.cell? ⟨gb240,0,none⟩ = some (.string a0_0):=(kC_ BK240.out 0).trans rfl
         have hcz36_1 : wr.cell? ⟨gb240,1,none⟩ = some (.slice A0_1 l0_1.length c0_1):=(kC_ BK240.out 1).trans rfl
         have hcz36_2 : wr.cell? ⟨gb240,2,none⟩ = some (.slice A0_2 l0_2.length c0_2):=(kC_ BK240.out 2).trans rfl
         have hcz36_3 : wr.cell? ⟨gb240,3,none⟩ = some (.slice A0_3 l0_3.length c0_3):=(kC_ BK240.out 3).trans rfl
         have hfz36_0:=kF_ BK240.out 0
         have hfz36_1:=kF_ BK240.out 1
         have hfz36_2:=kF_ BK240.out 2
         have hfz36_3:=kF_ BK240.out 3
         go_wp2
         repeat (go_quiet (fail);try go_wp2)
         go_ret
         exact ⟨by first | rfl | (simp [errW_none,errW_some] <;> rfl) | (simp [*, errW_none,errW_some] <;> rfl),by exact bZ_ HB⟩
     ·replace c18:=Bool.eq_false_iff.mpr c18
      subst c18
      have H1 : (some 5) = some r:=by rw [if_neg (show ¬ (false = true) by decide)] at H;exact H
      clear H
      have H:=H1
      clear H1
      obtain rfl:=Option.some.inj H
      go_enter Tryd.func23,Tryd.ntmps23
      go_wp2_with (first | ((with_reducible refine gate_dst (N:=1) rfl ?_);refine box_event ?hg (N:=1) ?hd (cs:=#[.string a0_0,.slice A0_1 l0_1.length c0_1,.slice A0_2 l0_2.length c0_2,.slice A0_3 l0_3.length c0_3]) (t:=35) ?hr ?_;(case hd=>rfl);(case hg=>rfl);(case hr=>first | (go_simp;done) | (go_simp;rfl));intro gb240 hg w37 hbox hb;have n0_:=aM_ (bT_ (by exact bZ_ HB) hb);have n1_:=aM_ (hbox);have n2_:=aM_ ((by rw [hg];exact (bS_ (by exact bZ_ HB)) : w.heap.size ≤ gb240));have n3_:=aM_ ((by rw [hg];exact (bS_ (by exact bZ_ HB)) : w.heap.size ≤ gb240));clear HB;have HB:=n0_;have BK240:=n1_;have GW240:=n2_;have GE240:=n3_;clear n0_ n1_ n2_ n3_ hb hbox hg;have hcz38_0 : w37.cell? ⟨gb240,0,none⟩ = some (.string a0_0):=(kC_ BK240.out 0).trans rfl;have hcz38_1 : w37.cell? ⟨gb240,1,none⟩ = some (.slice A0_1 l0_1.length c0_1):=(kC_ BK240.out 1).trans rfl;have hcz38_2 : w37.cell? ⟨gb240,2,none⟩ = some (.slice A0_2 l0_2.length c0_2):=(kC_ BK240.out 2).trans rfl;have hcz38_3 : w37.cell? ⟨gb240,3,none⟩ = some (.slice A0_3 l0_3.length c0_3):=(kC_ BK240.out 3).trans rfl;have hfz38_0:=kF_ BK240.out 0;have hfz38_1:=kF_ BK240.out 1;have hfz38_2:=kF_ BK240.out 2;have hfz38_3:=kF_ BK240.out 3) | (go_at_call 60;(with_reducible refine (spec_l9Names.calls k a0_0 _ _ l0_1 _ _ l0_2 _ _ l0_3 true _ ?side1 ?side2 ?side3 ?side4 ?side5 ?side6 A2.out).mono ?_);(case side1=>exact cZ_ HR0_1 HB);(case side2=>exact HC0_1.out);(case side3=>exact cZ_ HR0_2 HB);(case side4=>exact HC0_2.out);(case side5=>exact cZ_ HR0_3 HB);(case side6=>exact HC0_3.out);rintro e w39 ⟨rfl,hb⟩;have n0_:=aM_ (blk_below (g:=gb240) (o:=.cells #[.string a0_0,.slice A0_1 l0_1.length c0_1,.slice A0_2 l0_2.length c0_2,.slice A0_3 l0_3.length c0_3] 35 (0,0)) (by exact kZ_ BK240) hb);have n1_:=aM_ (bT_ (by exact bZ_ HB) hb);clear BK240 HB;have BK240:=n0_;have HB:=n1_;clear n0_ n1_ hb;have hcz40_0 : w39.cell? ⟨gb240,0,none⟩ = some (.string a0_0):=(kC_ BK240.out 0).trans rfl;have hcz40_1 : w39.cell? ⟨gb240,1,none⟩ = some (.slice A0_1 l0_1.length c0_1):=(kC_ BK240.out 1).trans rfl;have hcz40_2 : w39.cell? ⟨gb240,2,none⟩ = some (.slice A0_2 l0_2.length c0_2):=(kC_ BK240.out 2).trans rfl;have hcz40_3 : w39.cell? ⟨gb240,3,none⟩ = some (.slice A0_3 l0_3.length c0_3):=(kC_ BK240.out 3).trans rfl;have hfz40_0:=kF_ BK240.out 0;have hfz40_1:=kF_ BK240.out 1;have hfz40_2:=kF_ BK240.out 2;have hfz40_3:=kF_ BK240.out 3) | (go_at_call 61;(with_reducible refine (spec_l9Types.calls k a0_0 _ _ l0_1 _ _ l0_2 _ _ l0_3 true _ ?side1 ?side2 ?side3 ?side4 ?side5 ?side6 A4.out).mono ?_);(case side1=>exact cZ_ HR0_1 HB);(case side2=>exact HC0_1.out);(case side3=>exact cZ_ HR0_2 HB);(case side4=>exact HC0_2.out);(case side5=>exact cZ_ HR0_3 HB);(case side6=>exact HC0_3.out);rintro e w41 ⟨rfl,hb⟩;have n0_:=aM_ (blk_below (g:=gb240) (o:=.cells #[.string a0_0,.slice A0_1 l0_1.length c0_1,.slice A0_2 l0_2.length c0_2,.slice A0_3 l0_3.length c0_3] 35 (0,0)) (by exact kZ_ BK240) hb);have n1_:=aM_ (bT_ (by exact bZ_ HB) hb);clear BK240 HB;have BK240:=n0_;have HB:=n1_;clear n0_ n1_ hb;have hcz42_0 : w41.cell? ⟨gb240,0,none⟩ = some (.string a0_0):=(kC_ BK240.out 0).trans rfl;have hcz42_1 : w41.cell? ⟨gb240,1,none⟩ = some (.slice A0_1 l0_1.length c0_1):=(kC_ BK240.out 1).trans rfl;have hcz42_2 : w41.cell? ⟨gb240,2,none⟩ = some (.slice A0_2 l0_2.length c0_2):=(kC_ BK240.out 2).trans rfl;have hcz42_3 : w41.cell? ⟨gb240,3,none⟩ = some (.slice A0_3 l0_3.length c0_3):=(kC_ BK240.out 3).trans rfl;have hfz42_0:=kF_ BK240.out 0;have hfz42_1:=kF_ BK240.out 1;have hfz42_2:=kF_ BK240.out 2;have hfz42_3:=kF_ BK240.out 3) | (go_at_call 62;(with_reducible refine (spec_l9Once.calls k a0_0 _ _ l0_1 _ _ l0_2 _ _ l0_3 true _ ?side1 ?side2 ?side3 ?side4 ?side5 ?side6 A6.out).mono ?_);(case side1=>exact cZ_ HR0_1 HB);(case side2=>exact HC0_1.out);(case side3=>exact cZ_ HR0_2 HB);(case side4=>exact HC0_2.out);(case side5=>exact cZ_ HR0_3 HB);(case side6=>exact HC0_3.out);rintro e w43 ⟨rfl,hb⟩;have n0_:=aM_ (blk_below (g:=gb240) (o:=.cells #[.string a0_0,.slice A0_1 l0_1.length c0_1,.slice A0_2 l0_2.length c0_2,.slice A0_3 l0_3.length c0_3] 35 (0,0)) (by exact kZ_ BK240) hb);have n1_:=aM_ (bT_ (by exact bZ_ HB) hb);clear BK240 HB;have BK240:=n0_;have HB:=n1_;clear n0_ n1_ hb;have hcz44_0 : w43.cell? ⟨gb240,0,none⟩ = some (.string a0_0):=(kC_ BK240.out 0).trans rfl;have hcz44_1 : w43.cell? ⟨gb240,1,none⟩ = some (.slice A0_1 l0_1.length c0_1):=(kC_ BK240.out 1).trans rfl;have hcz44_2 : w43.cell? ⟨gb240,2,none⟩ = some (.slice A0_2 l0_2.length c0_2):=(kC_ BK240.out 2).trans rfl;have hcz44_3 : w43.cell? ⟨gb240,3,none⟩ = some (.slice A0_3 l0_3.length c0_3):=(kC_ BK240.out 3).trans rfl;have hfz44_0:=kF_ BK240.out 0;have hfz44_1:=kF_ BK240.out 1;have hfz44_2:=kF_ BK240.out 2;have hfz44_3:=kF_ BK240.out 3) | (go_at_call 63;(with_reducible refine (spec_l9AllParts.calls k a0_0 _ _ l0_1 _ _ l0_2 _ _ l0_3 false _ ?side1 ?side2 ?side3 ?side4 ?side5 ?side6 A17.out).mono ?_);(case side1=>exact cZ_ HR0_1 HB);(case side2=>exact HC0_1.out);(case side3=>exact cZ_ HR0_2 HB);(case side4=>exact HC0_2.out);(case side5=>exact cZ_ HR0_3 HB);(case side6=>exact HC0_3.out);rintro e w45 ⟨rfl,hb⟩;have n0_:=aM_ (blk_below (g:=gb240) (o:=.cells #[.string a0_0,.slice A0_1 l0_1.length c0_1,.slice A0_2 l0_2.length c0_2,.slice A0_3 l0_3.length c0_3] 35 (0,0)) (by exact kZ_ BK240) hb);have n1_:=aM_ (bT_ (by exact bZ_ HB) hb);clear BK240 HB;have BK240:=n0_;have HB:=n1_;clear n0_ n1_ hb))
      repeat (go_quiet (first | ((with_reducible refine gate_dst (N:=1) rfl ?_);refine box_event ?hg (N:=1) ?hd (cs:=#[.string a0_0,.slice A0_1 l0_1.length c0_1,.slice A0_2 l0_2.length c0_2,.slice A0_3 l0_3.length c0_3]) (t:=35) ?hr ?_;(case hd=>rfl);(case hg=>rfl);(case hr=>first | (go_simp;done) | (go_simp;rfl));intro gb240 hg w37 hbox hb;have n0_:=aM_ (bT_ (by exact bZ_ HB) hb);have n1_:=aM_ (hbox);have n2_:=aM_ ((by rw [hg];exact (bS_ (by exact bZ_ HB)) : w.heap.size ≤ gb240));have n3_:=aM_ ((by rw [hg];exact (bS_ (by exact bZ_ HB)) : w.heap.size ≤ gb240));clear HB;have HB:=n0_;have BK240:=n1_;have GW240:=n2_;have GE240:=n3_;clear n0_ n1_ n2_ n3_ hb hbox hg;have hcz38_0 : w37.cell? ⟨gb240,0,none⟩ = some (.string a0_0):=(kC_ BK240.out 0).trans rfl;have hcz38_1 : w37.cell? ⟨gb240,1,none⟩ = some (.slice A0_1 l0_1.length c0_1):=(kC_ BK240.out 1).trans rfl;have hcz38_2 : w37.cell? ⟨gb240,2,none⟩ = some (.slice A0_2 l0_2.length c0_2):=(kC_ BK240.out 2).trans rfl;have hcz38_3 : w37.cell? ⟨gb240,3,none⟩ = some (.slice A0_3 l0_3.length c0_3):=(kC_ BK240.out 3).trans rfl;have hfz38_0:=kF_ BK240.out 0;have hfz38_1:=kF_ BK240.out 1;have hfz38_2:=kF_ BK240.out 2;have hfz38_3:=kF_ BK240.out 3) | (go_at_call 60;(with_reducible refine (spec_l9Names.calls k a0_0 _ _ l0_1 _ _ l0_2 _ _ l0_3 true _ ?side1 ?side2 ?side3 ?side4 ?side5 ?side6 A2.out).mono ?_);(case side1=>exact cZ_ HR0_1 HB);(case side2=>exact HC0_1.out);(case side3=>exact cZ_ HR0_2 HB);(case side4=>exact HC0_2.out);(case side5=>exact cZ_ HR0_3 HB);(case side6=>exact HC0_3.out);rintro e w39 ⟨rfl,hb⟩;have n0_:=aM_ (blk_below (g:=gb240) (o:=.cells #[.string a0_0,.slice A0_1 l0_1.length c0_1,.slice A0_2 l0_2.length c0_2,.slice A0_3 l0_3.length c0_3] 35 (0,0)) (by exact kZ_ BK240) hb);have n1_:=aM_ (bT_ (by exact bZ_ HB) hb);clear BK240 HB;have BK240:=n0_;have HB:=n1_;clear n0_ n1_;(try clear hb);(try clear hb2);(try clear hk);(try clear hi);have hcz40_0 : w39.cell? ⟨gb240,0,none⟩ = some (.string a0_0):=(kC_ BK240.out 0).trans rfl;have hcz40_1 : w39.cell? ⟨gb240,1,none⟩ = some (.slice A0_1 l0_1.length c0_1):=(kC_ BK240.out 1).trans rfl;have hcz40_2 : w39.cell? ⟨gb240,2,none⟩ = some (.slice A0_2 l0_2.length c0_2):=(kC_ BK240.out 2).trans rfl;have hcz40_3 : w39.cell? ⟨gb240,3,none⟩ = some (.slice A0_3 l0_3.length c0_3):=(kC_ BK240.out 3).trans rfl;have hfz40_0:=kF_ BK240.out 0;have hfz40_1:=kF_ BK240.out 1;have hfz40_2:=kF_ BK240.out 2;have hfz40_3:=kF_ BK240.out 3) | (go_at_call 61;(with_reducible refine (spec_l9Types.calls k a0_0 _ _ l0_1 _ _ l0_2 _ _ l0_3 true _ ?side1 ?side2 ?side3 ?side4 ?side5 ?side6 A4.out).mono ?_);(case side1=>exact cZ_ HR0_1 HB);(case side2=>exact HC0_1.out);(case side3=>exact cZ_ HR0_2 HB);(case side4=>exact HC0_2.out);(case side5=>exact cZ_ HR0_3 HB);(case side6=>exact HC0_3.out);rintro e w41 ⟨rfl,hb⟩;have n0_:=aM_ (blk_below (g:=gb240) (o:=.cells #[.string a0_0,.slice A0_1 l0_1.length c0_1,.slice A0_2 l0_2.length c0_2,.slice A0_3 l0_3.length c0_3] 35 (0,0)) (by exact kZ_ BK240) hb);have n1_:=aM_ (bT_ (by exact bZ_ HB) hb);clear BK240 HB;have BK240:=n0_;have HB:=n1_;clear n0_ n1_;(try clear hb);(try clear hb2);(try clear hk);(try clear hi);have hcz42_0 : w41.cell? ⟨gb240,0,none⟩ = some (.string a0_0):=(kC_ BK240.out 0).trans rfl;have hcz42_1 : w41.cell? ⟨gb240,1,none⟩ = some (.slice A0_1 l0_1.length c0_1):=(kC_ BK240.out 1).trans rfl;have hcz42_2 : w41.cell? ⟨gb240,2,none⟩ = some (.slice A0_2 l0_2.length c0_2):=(kC_ BK240.out 2).trans rfl;have hcz42_3 : w41.cell? ⟨gb240,3,none⟩ = some (.slice A0_3 l0_3.length c0_3):=(kC_ BK240.out 3).trans rfl;have hfz42_0:=kF_ BK240.out 0;have hfz42_1:=kF_ BK240.out 1;have hfz42_2:=kF_ BK240.out 2;have hfz42_3:=kF_ BK240.out 3) | (go_at_call 62;(with_reducible refine (spec_l9Once.calls k a0_0 _ _ l0_1 _ _ l0_2 _ _ l0_3 true _ ?side1 ?side2 ?side3 ?side4 ?side5 ?side6 A6.out).mono ?_);(case side1=>exact cZ_ HR0_1 HB);(case side2=>exact HC0_1.out);(case side3=>exact cZ_ HR0_2 HB);(case side4=>exact HC0_2.out);(case side5=>exact cZ_ HR0_3 HB);(case side6=>exact HC0_3.out);rintro e w43 ⟨rfl,hb⟩;have n0_:=aM_ (blk_below (g:=gb240) (o:=.cells #[.string a0_0,.slice A0_1 l0_1.length c0_1,.slice A0_2 l0_2.length c0_2,.slice A0_3 l0_3.length c0_3] 35 (0,0)) (by exact kZ_ BK240) hb);have n1_:=aM_ (bT_ (by exact bZ_ HB) hb);clear BK240 HB;have BK240:=n0_;have HB:=n1_;clear n0_ n1_;(try clear hb);(try clear hb2);(try clear hk);(try clear hi);have hcz44_0 : w43.cell? ⟨gb240,0,none⟩ = some (.string a0_0):=(kC_ BK240.out 0).trans rfl;have hcz44_1 : w43.cell? ⟨gb240,1,none⟩ = some (.slice A0_1 l0_1.length c0_1):=(kC_ BK240.out 1).trans rfl;have hcz44_2 : w43.cell? ⟨gb240,2,none⟩ = some (.slice A0_2 l0_2.length c0_2):=(kC_ BK240.out 2).trans rfl;have hcz44_3 : w43.cell? ⟨gb240,3,none⟩ = some (.slice A0_3 l0_3.length c0_3):=(kC_ BK240.out 3).trans rfl;have hfz44_0:=kF_ BK240.out 0;have hfz44_1:=kF_ BK240.out 1;have hfz44_2:=kF_ BK240.out 2;have hfz44_3:=kF_ BK240.out 3) | (go_at_call 63;(with_reducible refine (spec_l9AllParts.calls k a0_0 _ _ l0_1 _ _ l0_2 _ _ l0_3 false _ ?side1 ?side2 ?side3 ?side4 ?side5 ?side6 A17.out).mono ?_);(case side1=>exact cZ_ HR0_1 HB);(case side2=>exact HC0_1.out);(case side3=>exact cZ_ HR0_2 HB);(case side4=>exact HC0_2.out);(case side5=>exact cZ_ HR0_3 HB);(case side6=>exact HC0_3.out);rintro e w45 ⟨rfl,hb⟩;have n0_:=aM_ (blk_below (g:=gb240) (o:=.cells #[.string a0_0,.slice A0_1 l0_1.length c0_1,.slice A0_2 l0_2.length c0_2,.slice A0_3 l0_3.length c0_3] 35 (0,0)) (by exact kZ_ BK240) hb);have n1_:=aM_ (bT_ (by exact bZ_ HB) hb);clear BK240 HB;have BK240:=n0_;have HB:=n1_;clear n0_ n1_;(try clear hb);(try clear hb2);(try clear hk);(try clear hi)));try go_wp2_with (first | ((with_reducible refine gate_dst (N:=1) rfl ?_);refine box_event ?hg (N:=1) ?hd (cs:=#[.string a0_0,.slice A0_1 l0_1.length c0_1,.slice A0_2 l0_2.length c0_2,.slice A0_3 l0_3.length c0_3]) (t:=35) ?hr ?_;(case hd=>rfl);(case hg=>rfl);(case hr=>first | (go_simp;done) | (go_simp;rfl));intro gb240 hg w37 hbox hb;have n0_:=aM_ (bT_ (by exact bZ_ HB) hb);have n1_:=aM_ (hbox);have n2_:=aM_ ((by rw [hg];exact (bS_ (by exact bZ_ HB)) : w.heap.size ≤ gb240));have n3_:=aM_ ((by rw [hg];exact (bS_ (by exact bZ_ HB)) : w.heap.size ≤ gb240));clear HB;have HB:=n0_;have BK240:=n1_;have GW240:=n2_;have GE240:=n3_;clear n0_ n1_ n2_ n3_ hb hbox hg;have hcz38_0 : w37.cell? ⟨gb240,0,none⟩ = some (.string a0_0):=(kC_ BK240.out 0).trans rfl;have hcz38_1 : w37.cell? ⟨gb240,1,none⟩ = some (.slice A0_1 l0_1.length c0_1):=(kC_ BK240.out 1).trans rfl;have hcz38_2 : w37.cell? ⟨gb240,2,none⟩ = some (.slice A0_2 l0_2.length c0_2):=(kC_ BK240.out 2).trans rfl;have hcz38_3 : w37.cell? ⟨gb240,3,none⟩ = some (.slice A0_3 l0_3.length c0_3):=(kC_ BK240.out 3).trans rfl;have hfz38_0:=kF_ BK240.out 0;have hfz38_1:=kF_ BK240.out 1;have hfz38_2:=kF_ BK240.out 2;have hfz38_3:=kF_ BK240.out 3) | (go_at_call 60;(with_reducible refine (spec_l9Names.calls k a0_0 _ _ l0_1 _ _ l0_2 _ _ l0_3 true _ ?side1 ?side2 ?side3 ?side4 ?side5 ?side6 A2.out).mono ?_);(case side1=>exact cZ_ HR0_1 HB);(case side2=>exact HC0_1.out);(case side3=>exact cZ_ HR0_2 HB);(case side4=>exact HC0_2.out);(case side5=>exact cZ_ HR0_3 HB);(case side6=>exact HC0_3.out);rintro e w39 ⟨rfl,hb⟩;have n0_:=aM_ (blk_below (g:=gb240) (o:=.cells #[.string a0_0,.slice A0_1 l0_1.length c0_1,.slice A0_2 l0_2.length c0_2,.slice A0_3 l0_3.length c0_3] 35 (0,0)) (by exact kZ_ BK240) hb);have n1_:=aM_ (bT_ (by exact bZ_ HB) hb);clear BK240 HB;have BK240:=n0_;have HB:=n1_;clear n0_ n1_;(try clear hb);(try clear hb2);(try clear hk);(try clear hi);have hcz40_0 : w39.cell? ⟨gb240,0,none⟩ = some (.string a0_0):=(kC_ BK240.out 0).trans rfl;have hcz40_1 : w39.cell? ⟨gb240,1,none⟩ = some (.slice A0_1 l0_1.length c0_1):=(kC_ BK240.out 1).trans rfl;have hcz40_2 : w39.cell? ⟨gb240,2,none⟩ = some (.slice A0_2 l0_2.length c0_2):=(kC_ BK240.out 2).trans rfl;have hcz40_3 : w39.cell? ⟨gb240,3,none⟩ = some (.slice A0_3 l0_3.length c0_3):=(kC_ BK240.out 3).trans rfl;have hfz40_0:=kF_ BK240.out 0;have hfz40_1:=kF_ BK240.out 1;have hfz40_2:=kF_ BK240.out 2;have hfz40_3:=kF_ BK240.out 3) | (go_at_call 61;(with_reducible refine (spec_l9Types.calls k a0_0 _ _ l0_1 _ _ l0_2 _ _ l0_3 true _ ?side1 ?side2 ?side3 ?side4 ?side5 ?side6 A4.out).mono ?_);(case side1=>exact cZ_ HR0_1 HB);(case side2=>exact HC0_1.out);(case side3=>exact cZ_ HR0_2 HB);(case side4=>exact HC0_2.out);(case side5=>exact cZ_ HR0_3 HB);(case side6=>exact HC0_3.out);rintro e w41 ⟨rfl,hb⟩;have n0_:=aM_ (blk_below (g:=gb240) (o:=.cells #[.string a0_0,.slice A0_1 l0_1.length c0_1,.slice A0_2 l0_2.length c0_2,.slice A0_3 l0_3.length c0_3] 35 (0,0)) (by exact kZ_ BK240) hb);have n1_:=aM_ (bT_ (by exact bZ_ HB) hb);clear BK240 HB;have BK240:=n0_;have HB:=n1_;clear n0_ n1_;(try clear hb);(try clear hb2);(try clear hk);(try clear hi);have hcz42_0 : w41.cell? ⟨gb240,0,none⟩ = some (.string a0_0):=(kC_ BK240.out 0).trans rfl;have hcz42_1 : w41.cell? ⟨gb240,1,none⟩ = some (.slice A0_1 l0_1.length c0_1):=(kC_ BK240.out 1).trans rfl;have hcz42_2 : w41.cell? ⟨gb240,2,none⟩ = some (.slice A0_2 l0_2.length c0_2):=(kC_ BK240.out 2).trans rfl;have hcz42_3 : w41.cell? ⟨gb240,3,none⟩ = some (.slice A0_3 l0_3.length c0_3):=(kC_ BK240.out 3).trans rfl;have hfz42_0:=kF_ BK240.out 0;have hfz42_1:=kF_ BK240.out 1;have hfz42_2:=kF_ BK240.out 2;have hfz42_3:=kF_ BK240.out 3) | (go_at_call 62;(with_reducible refine (spec_l9Once.calls k a0_0 _ _ l0_1 _ _ l0_2 _ _ l0_3 true _ ?side1 ?side2 ?side3 ?side4 ?side5 ?side6 A6.out).mono ?_);(case side1=>exact cZ_ HR0_1 HB);(case side2=>exact HC0_1.out);(case side3=>exact cZ_ HR0_2 HB);(case side4=>exact HC0_2.out);(case side5=>exact cZ_ HR0_3 HB);(case side6=>exact HC0_3.out);rintro e w43 ⟨rfl,hb⟩;have n0_:=aM_ (blk_below (g:=gb240) (o:=.cells #[.string a0_0,.slice A0_1 l0_1.length c0_1,.slice A0_2 l0_2.length c0_2,.slice A0_3 l0_3.length c0_3] 35 (0,0)) (by exact kZ_ BK240) hb);have n1_:=aM_ (bT_ (by exact bZ_ HB) hb);clear BK240 HB;have BK240:=n0_;have HB:=n1_;clear n0_ n1_;(try clear hb);(try clear hb2);(try clear hk);(try clear hi);have hcz44_0 : w43.cell? ⟨gb240,0,none⟩ = some (.string a0_0):=(kC_ BK240.out 0).trans rfl;have hcz44_1 : w43.cell? ⟨gb240,1,none⟩ = some (.slice A0_1 l0_1.length c0_1):=(kC_ BK240.out 1).trans rfl;have hcz44_2 : w43.cell? ⟨gb240,2,none⟩ = some (.slice A0_2 l0_2.length c0_2):=(kC_ BK240.out 2).trans rfl;have hcz44_3 : w43.cell? ⟨gb240,3,none⟩ = some (.slice A0_3 l0_3.length c0_3):=(kC_ BK240.out 3).trans rfl;have hfz44_0:=kF_ BK240.out 0;have hfz44_1:=kF_ BK240.out 1;have hfz44_2:=kF_ BK240.out 2;have hfz44_3:=kF_ BK240.out 3) | (go_at_call 63;(with_reducible refine (spec_l9AllParts.calls k a0_0 _ _ l0_1 _ _ l0_2 _ _ l0_3 false _ ?side1 ?side2 ?side3 ?side4 ?side5 ?side6 A17.out).mono ?_);(case side1=>exact cZ_ HR0_1 HB);(case side2=>exact HC0_1.out);(case side3=>exact cZ_ HR0_2 HB);(case side4=>exact HC0_2.out);(case side5=>exact cZ_ HR0_3 HB);(case side6=>exact HC0_3.out);rintro e w45 ⟨rfl,hb⟩;have n0_:=aM_ (blk_below (g:=gb240) (o:=.cells #[.string a0_0,.slice A0_1 l0_1.length c0_1,.slice A0_2 l0_2.length c0_2,.slice A0_3 l0_3.length c0_3] 35 (0,0)) (by exact kZ_ BK240) hb);have n1_:=aM_ (bT_ (by exact bZ_ HB) hb);clear BK240 HB;have BK240:=n0_;have HB:=n1_;clear n0_ n1_;(try clear hb);(try clear hb2);(try clear hk);(try clear hi))))
      go_ret
      exact ⟨by first | rfl | (simp [errW_none,errW_some] <;> rfl) | (simp [*, errW_none,errW_some] <;> rfl),by exact bZ_ HB⟩
   ·replace c7:=Bool.eq_false_iff.mpr c7
    subst c7
    have H1 : (some 3) = some r:=by rw [if_neg (show ¬ (false = true) by decide)] at H;exact H
    clear H
    have H:=H1
    clear H1
    obtain rfl:=Option.some.inj H
    go_enter Tryd.func23,Tryd.ntmps23
    go_wp2_with (first | ((with_reducible refine gate_dst (N:=1) rfl ?_);refine box_event ?hg (N:=1) ?hd (cs:=#[.string a0_0,.slice A0_1 l0_1.length c0_1,.slice A0_2 l0_2.length c0_2,.slice A0_3 l0_3.length c0_3]) (t:=35) ?hr ?_;(case hd=>rfl);(case hg=>rfl);(case hr=>first | (go_simp;done) | (go_simp;rfl));intro gb240 hg w46 hbox hb;have n0_:=aM_ (bT_ (by exact bZ_ HB) hb);have n1_:=aM_ (hbox);have n2_:=aM_ ((by rw [hg];exact (bS_ (by exact bZ_ HB)) : w.heap.size ≤ gb240));have n3_:=aM_ ((by rw [hg];exact (bS_ (by exact bZ_ HB)) : w.heap.size ≤ gb240));clear HB;have HB:=n0_;have BK240:=n1_;have GW240:=n2_;have GE240:=n3_;clear n0_ n1_ n2_ n3_ hb hbox hg;have hcz47_0 : w46.cell? ⟨gb240,0,none⟩ = some (.string a0_0):=(kC_ BK240.out 0).trans rfl;have hcz47_1 : w46.cell? ⟨gb240,1,none⟩ = some (.slice A0_1 l0_1.length c0_1):=(kC_ BK240.out 1).trans rfl;have hcz47_2 : w46.cell? ⟨gb240,2,none⟩ = some (.slice A0_2 l0_2.length c0_2):=(kC_ BK240.out 2).trans rfl;have hcz47_3 : w46.cell? ⟨gb240,3,none⟩ = some (.slice A0_3 l0_3.length c0_3):=(kC_ BK240.out 3).trans rfl;have hfz47_0:=kF_ BK240.out 0;have hfz47_1:=kF_ BK240.out 1;have hfz47_2:=kF_ BK240.out 2;have hfz47_3:=kF_ BK240.out 3) | (go_at_call 60;(with_reducible refine (spec_l9Names.calls k a0_0 _ _ l0_1 _ _ l0_2 _ _ l0_3 true _ ?side1 ?side2 ?side3 ?side4 ?side5 ?side6 A2.out).mono ?_);(case side1=>exact cZ_ HR0_1 HB);(case side2=>exact HC0_1.out);(case side3=>exact cZ_ HR0_2 HB);(case side4=>exact HC0_2.out);(case side5=>exact cZ_ HR0_3 HB);(case side6=>exact HC0_3.out);rintro e w48 ⟨rfl,hb⟩;have n0_:=aM_ (blk_below (g:=gb240) (o:=.cells #[.string a0_0,.slice A0_1 l0_1.length c0_1,.slice A0_2 l0_2.length c0_2,.slice A0_3 l0_3.length c0_3] 35 (0,0)) (by exact kZ_ BK240) hb);have n1_:=aM_ (bT_ (by exact bZ_ HB) hb);clear BK240 HB;have BK240:=n0_;have HB:=n1_;clear n0_ n1_ hb;have hcz49_0 : w48.cell? ⟨gb240,0,none⟩ = some (.string a0_0):=(kC_ BK240.out 0).trans rfl;have hcz49_1 : w48.cell? ⟨gb240,1,none⟩ = some (.slice A0_1 l0_1.length c0_1):=(kC_ BK240.out 1).trans rfl;have hcz49_2 : w48.cell? ⟨gb240,2,none⟩ = some (.slice A0_2 l0_2.length c0_2):=(kC_ BK240.out 2).trans rfl;have hcz49_3 : w48.cell? ⟨gb240,3,none⟩ = some (.slice A0_3 l0_3.length c0_3):=(kC_ BK240.out 3).trans rfl;have hfz49_0:=kF_ BK240.out 0;have hfz49_1:=kF_ BK240.out 1;have hfz49_2:=kF_ BK240.out 2;have hfz49_3:=kF_ BK240.out 3) | (go_at_call 61;(with_reducible refine (spec_l9Types.calls k a0_0 _ _ l0_1 _ _ l0_2 _ _ l0_3 true _ ?side1 ?side2 ?side3 ?side4 ?side5 ?side6 A4.out).mono ?_);(case side1=>exact cZ_ HR0_1 HB);(case side2=>exact HC0_1.out);(case side3=>exact cZ_ HR0_2 HB);(case side4=>exact HC0_2.out);(case side5=>exact cZ_ HR0_3 HB);(case side6=>exact HC0_3.out);rintro e w50 ⟨rfl,hb⟩;have n0_:=aM_ (blk_below (g:=gb240) (o:=.cells #[.string a0_0,.slice A0_1 l0_1.length c0_1,.slice A0_2 l0_2.length c0_2,.slice A0_3 l0_3.length c0_3] 35 (0,0)) (by exact kZ_ BK240) hb);have n1_:=aM_ (bT_ (by exact bZ_ HB) hb);clear BK240 HB;have BK240:=n0_;have HB:=n1_;clear n0_ n1_ hb;have hcz51_0 : w50.cell? ⟨gb240,0,none⟩ = some (.string a0_0):=(kC_ BK240.out 0).trans rfl;have hcz51_1 : w50.cell? ⟨gb240,1,none⟩ = some (.slice A0_1 l0_1.length c0_1):=(kC_ BK240.out 1).trans rfl;have hcz51_2 : w50.cell? ⟨gb240,2,none⟩ = some (.slice A0_2 l0_2.length c0_2):=(kC_ BK240.out 2).trans rfl;have hcz51_3 : w50.cell? ⟨gb240,3,none⟩ = some (.slice A0_3 l0_3.length c0_3):=(kC_ BK240.out 3).trans rfl;have hfz51_0:=kF_ BK240.out 0;have hfz51_1:=kF_ BK240.out 1;have hfz51_2:=kF_ BK240.out 2;have hfz51_3:=kF_ BK240.out 3) | (go_at_call 62;(with_reducible refine (spec_l9Once.calls k a0_0 _ _ l0_1 _ _ l0_2 _ _ l0_3 false _ ?side1 ?side2 ?side3 ?side4 ?side5 ?side6 A6.out).mono ?_);(case side1=>exact cZ_ HR0_1 HB);(case side2=>exact HC0_1.out);(case side3=>exact cZ_ HR0_2 HB);(case side4=>exact HC0_2.out);(case side5=>exact cZ_ HR0_3 HB);(case side6=>exact HC0_3.out);rintro e w52 ⟨rfl,hb⟩;have n0_:=aM_ (blk_below (g:=gb240) (o:=.cells #[.string a0_0,.slice A0_1 l0_1.length c0_1,.slice A0_2 l0_2.length c0_2,.slice A0_3 l0_3.length c0_3] 35 (0,0)) (by exact kZ_ BK240) hb);have n1_:=aM_ (bT_ (by exact bZ_ HB) hb);clear BK240 HB;have BK240:=n0_;have HB:=n1_;clear n0_ n1_ hb))
    repeat (go_quiet (first | ((with_reducible refine gate_dst (N:=1) rfl ?_);refine box_event ?hg (N:=1) ?hd (cs:=#[.string a0_0,.slice A0_1 l0_1.length c0_1,.slice A0_2 l0_2.length c0_2,.slice A0_3 l0_3.length c0_3]) (t:=35) ?hr ?_;(case hd=>rfl);(case hg=>rfl);(case hr=>first | (go_simp;done) | (go_simp;rfl));intro gb240 hg w46 hbox hb;have n0_:=aM_ (bT_ (by exact bZ_ HB) hb);have n1_:=aM_ (hbox);have n2_:=aM_ ((by rw [hg];exact (bS_ (by exact bZ_ HB)) : w.heap.size ≤ gb240));have n3_:=aM_ ((by rw [hg];exact (bS_ (by exact bZ_ HB)) : w.heap.size ≤ gb240));clear HB;have HB:=n0_;have BK240:=n1_;have GW240:=n2_;have GE240:=n3_;clear n0_ n1_ n2_ n3_ hb hbox hg;have hcz47_0 : w46.cell? ⟨gb240,0,none⟩ = some (.string a0_0):=(kC_ BK240.out 0).trans rfl;have hcz47_1 : w46.cell? ⟨gb240,1,none⟩ = some (.slice A0_1 l0_1.length c0_1):=(kC_ BK240.out 1).trans rfl;have hcz47_2 : w46.cell? ⟨gb240,2,none⟩ = some (.slice A0_2 l0_2.length c0_2):=(kC_ BK240.out 2).trans rfl;have hcz47_3 : w46.cell? ⟨gb240,3,none⟩ = some (.slice A0_3 l0_3.length c0_3):=(kC_ BK240.out 3).trans rfl;have hfz47_0:=kF_ BK240.out 0;have hfz47_1:=kF_ BK240.out 1;have hfz47_2:=kF_ BK240.out 2;have hfz47_3:=kF_ BK240.out 3) | (go_at_call 60;(with_reducible refine (spec_l9Names.calls k a0_0 _ _ l0_1 _ _ l0_2 _ _ l0_3 true _ ?side1 ?side2 ?side3 ?side4 ?side5 ?side6 A2.out).mono ?_);(case side1=>exact cZ_ HR0_1 HB);(case side2=>exact HC0_1.out);(case side3=>exact cZ_ HR0_2 HB);(case side4=>exact HC0_2.out);(case side5=>exact cZ_ HR0_3 HB);(case side6=>exact HC0_3.out);rintro e w48 ⟨rfl,hb⟩;have n0_:=aM_ (blk_below (g:=gb240) (o:=.cells #[.string a0_0,.slice A0_1 l0_1.length c0_1,.slice A0_2 l0_2.length c0_2,.slice A0_3 l0_3.length c0_3] 35 (0,0)) (by exact kZ_ BK240) hb);have n1_:=aM_ (bT_ (by exact bZ_ HB) hb);clear BK240 HB;have BK240:=n0_;have HB:=n1_;clear n0_ n1_;(try clear hb);(try clear hb2);(try clear hk);(try clear hi);have hcz49_0 : w48.cell? ⟨gb240,0,none⟩ = some (.string a0_0):=(kC_ BK240.out 0).trans rfl;have hcz49_1 : w48.cell? ⟨gb240,1,none⟩ = some (.slice A0_1 l0_1.length c0_1):=(kC_ BK240.out 1).trans rfl;have hcz49_2 : w48.cell? ⟨gb240,2,none⟩ = some (.slice A0_2 l0_2.length c0_2):=(kC_ BK240.out 2).trans rfl;have hcz49_3 : w48.cell? ⟨gb240,3,none⟩ = some (.slice A0_3 l0_3.length c0_3):=(kC_ BK240.out 3).trans rfl;have hfz49_0:=kF_ BK240.out 0;have hfz49_1:=kF_ BK240.out 1;have hfz49_2:=kF_ BK240.out 2;have hfz49_3:=kF_ BK240.out 3) | (go_at_call 61;(with_reducible refine (spec_l9Types.calls k a0_0 _ _ l0_1 _ _ l0_2 _ _ l0_3 true _ ?side1 ?side2 ?side3 ?side4 ?side5 ?side6 A4.out).mono ?_);(case side1=>exact cZ_ HR0_1 HB);(case side2=>exact HC0_1.out);(case side3=>exact cZ_ HR0_2 HB);(case side4=>exact HC0_2.out);(case side5=>exact cZ_ HR0_3 HB);(case side6=>exact HC0_3.out);rintro e w50 ⟨rfl,hb⟩;have n0_:=aM_ (blk_below (g:=gb240) (o:=.cells #[.string a0_0,.slice A0_1 l0_1.length c0_1,.slice A0_2 l0_2.length c0_2,.slice A0_3 l0_3.length c0_3] 35 (0,0)) (by exact kZ_ BK240) hb);have n1_:=aM_ (bT_ (by exact bZ_ HB) hb);clear BK240 HB;have BK240:=n0_;have HB:=n1_;clear n0_ n1_;(try clear hb);(try clear hb2);(try clear hk);(try clear hi);have hcz51_0 : w50.cell? ⟨gb240,0,none⟩ = some (.string a0_0):=(kC_ BK240.out 0).trans rfl;have hcz51_1 : w50.cell? ⟨gb240,1,none⟩ = some (.slice A0_1 l0_1.length c0_1):=(kC_ BK240.out 1).trans rfl;have hcz51_2 : w50.cell? ⟨gb240,2,none⟩ = some (.slice A0_2 l0_2.length c0_2):=(kC_ BK240.out 2).trans rfl;have hcz51_3 : w50.cell? ⟨gb240,3,none⟩ = some (.slice A0_3 l0_3.length c0_3):=(kC_ BK240.out 3).trans rfl;have hfz51_0:=kF_ BK240.out 0;have hfz51_1:=kF_ BK240.out 1;have hfz51_2:=kF_ BK240.out 2;have hfz51_3:=kF_ BK240.out 3) | (go_at_call 62;(with_reducible refine (spec_l9Once.calls k a0_0 _ _ l0_1 _ _ l0_2 _ _ l0_3 false _ ?side1 ?side2 ?side3 ?side4 ?side5 ?side6 A6.out).mono ?_);(case side1=>exact cZ_ HR0_1 HB);(case side2=>exact HC0_1.out);(case side3=>exact cZ_ HR0_2 HB);(case side4=>exact HC0_2.out);(case side5=>exact cZ_ HR0_3 HB);(case side6=>exact HC0_3.out);rintro e w52 ⟨rfl,hb⟩;have n0_:=aM_ (blk_below (g:=gb240) (o:=.cells #[.string a0_0,.slice A0_1 l0_1.length c0_1,.slice A0_2 l0_2.length c0_2,.slice A0_3 l0_3.length c0_3] 35 (0,0)) (by exact kZ_ BK240) hb);have n1_:=aM_ (bT_ (by exact bZ_ HB) hb);clear BK240 HB;have BK240:=n0_;have HB:=n1_;clear n0_ n1_;(try clear hb);(try clear hb2);(try clear hk);(try clear hi)));try go_wp2_with (first | ((with_reducible refine gate_dst (N:=1) rfl ?_);refine box_event ?hg (N:=1) ?hd (cs:=#[.string a0_0,.slice A0_1 l0_1.length c0_1,.slice A0_2 l0_2.length c0_2,.slice A0_3 l0_3.length c0_3]) (t:=35) ?hr ?_;(case hd=>rfl);(case hg=>rfl);(case hr=>first | (go_simp;done) | (go_simp;rfl));intro gb240 hg w46 hbox hb;have n0_:=aM_ (bT_ (by exact bZ_ HB) hb);have n1_:=aM_ (hbox);have n2_:=aM_ ((by rw [hg];exact (bS_ (by exact bZ_ HB)) : w.heap.size ≤ gb240));have n3_:=aM_ ((by rw [hg];exact (bS_ (by exact bZ_ HB)) : w.heap.size ≤ gb240));clear HB;have HB:=n0_;have BK240:=n1_;have GW240:=n2_;have GE240:=n3_;clear n0_ n1_ n2_ n3_ hb hbox hg;have hcz47_0 : w46.cell? ⟨gb240,0,none⟩ = some (.string a0_0):=(kC_ BK240.out 0).trans rfl;have hcz47_1 : w46.cell? ⟨gb240,1,none⟩ = some (.slice A0_1 l0_1.length c0_1):=(kC_ BK240.out 1).trans rfl;have hcz47_2 : w46.cell? ⟨gb240,2,none⟩ = some (.slice A0_2 l0_2.length c0_2):=(kC_ BK240.out 2).trans rfl;have hcz47_3 : w46.cell? ⟨gb240,3,none⟩ = some (.slice A0_3 l0_3.length c0_3):=(kC_ BK240.out 3).trans rfl;have hfz47_0:=kF_ BK240.out 0;have hfz47_1:=kF_ BK240.out 1;have hfz47_2:=kF_ BK240.out 2;have hfz47_3:=kF_ BK240.out 3) | (go_at_call 60;(with_reducible refine (spec_l9Names.calls k a0_0 _ _ l0_1 _ _ l0_2 _ _ l0_3 true _ ?side1 ?side2 ?side3 ?side4 ?side5 ?side6 A2.out).mono ?_);(case side1=>exact cZ_ HR0_1 HB);(case side2=>exact HC0_1.out);(case side3=>exact cZ_ HR0_2 HB);(case side4=>exact HC0_2.out);(case side5=>exact cZ_ HR0_3 HB);(case side6=>exact HC0_3.out);rintro e w48 ⟨rfl,hb⟩;have n0_:=aM_ (blk_below (g:=gb240) (o:=.cells #[.string a0_0,.slice A0_1 l0_1.length c0_1,.slice A0_2 l0_2.length c0_2,.slice A0_3 l0_3.length c0_3] 35 (0,0)) (by exact kZ_ BK240) hb);have n1_:=aM_ (bT_ (by exact bZ_ HB) hb);clear BK240 HB;have BK240:=n0_;have HB:=n1_;clear n0_ n1_;(try clear hb);(try clear hb2);(try clear hk);(try clear hi);have hcz49_0 : w48.cell? ⟨gb240,0,none⟩ = some (.string a0_0):=(kC_ BK240.out 0).trans rfl;have hcz49_1 : w48.cell? ⟨gb240,1,none⟩ = some (.slice A0_1 l0_1.length c0_1):=(kC_ BK240.out 1).trans rfl;have hcz49_2 : w48.cell? ⟨gb240,2,none⟩ = some (.slice A0_2 l0_2.length c0_2):=(kC_ BK240.out 2).trans rfl;have hcz49_3 : w48.cell? ⟨gb240,3,none⟩ = some (.slice A0_3 l0_3.length c0_3):=(kC_ BK240.out 3).trans rfl;have hfz49_0:=kF_ BK240.out 0;have hfz49_1:=kF_ BK240.out 1;have hfz49_2:=kF_ BK240.out 2;have hfz49_3:=kF_ BK240.out 3) | (go_at_call 61;(with_reducible refine (spec_l9Types.calls k a0_0 _ _ l0_1 _ _ l0_2 _ _ l0_3 true _ ?side1 ?side2 ?side3 ?side4 ?side5 ?side6 A4.out).mono ?_);(case side1=>exact cZ_ HR0_1 HB);(case side2=>exact HC0_1.out);(case side3=>exact cZ_ HR0_2 HB);(case side4=>exact HC0_2.out);(case side5=>exact cZ_ HR0_3 HB);(case side6=>exact HC0_3.out);rintro e w50 ⟨rfl,hb⟩;have n0_:=aM_ (blk_below (g:=gb240) (o:=.cells #[.string a0_0,.slice A0_1 l0_1.length c0_1,.slice A0_2 l0_2.length c0_2,.slice A0_3 l0_3.length c0_3] 35 (0,0)) (by exact kZ_ BK240) hb);have n1_:=aM_ (bT_ (by exact bZ_ HB) hb);clear BK240 HB;have BK240:=n0_;have HB:=n1_;clear n0_ n1_;(try clear hb);(try clear hb2);(try clear hk);(try clear hi);have hcz51_0 : w50.cell? ⟨gb240,0,none⟩ = some (.string a0_0):=(kC_ BK240.out 0).trans rfl;have hcz51_1 : w50.cell? ⟨gb240,1,none⟩ = some (.slice A0_1 l0_1.length c0_1):=(kC_ BK240.out 1).trans rfl;have hcz51_2 : w50.cell? ⟨gb240,2,none⟩ = some (.slice A0_2 l0_2.length c0_2):=(kC_ BK240.out 2).trans rfl;have hcz51_3 : w50.cell? ⟨gb240,3,none⟩ = some (.slice A0_3 l0_3.length c0_3):=(kC_ BK240.out 3).trans rfl;have hfz51_0:=kF_ BK240.out 0;have hfz51_1:=kF_ BK240.out 1;have hfz51_2:=kF_ BK240.out 2;have hfz51_3:=kF_ BK240.out 3) | (go_at_call 62;(with_reducible refine (spec_l9Once.calls k a0_0 _ _ l0_1 _ _ l0_2 _ _ l0_3 false _ ?side1 ?side2 ?side3 ?side4 ?side5 ?side6 A6.out).mono ?_);(case side1=>exact cZ_ HR0_1 HB);(case side2=>exact HC0_1.out);(case side3=>exact cZ_ HR0_2 HB);(case side4=>exact HC0_2.out);(case side5=>exact cZ_ HR0_3 HB);(case side6=>exact HC0_3.out);rintro e w52 ⟨rfl,hb⟩;have n0_:=aM_ (blk_below (g:=gb240) (o:=.cells #[.string a0_0,.slice A0_1 l0_1.length c0_1,.slice A0_2 l0_2.length c0_2,.slice A0_3 l0_3.length c0_3] 35 (0,0)) (by exact kZ_ BK240) hb);have n1_:=aM_ (bT_ (by exact bZ_ HB) hb);clear BK240 HB;have BK240:=n0_;have HB:=n1_;clear n0_ n1_;(try clear hb);(try clear hb2);(try clear hk);(try clear hi))))
    go_ret
    exact ⟨by first | rfl | (simp [errW_none,errW_some] <;> rfl) | (simp [*, errW_none,errW_some] <;> rfl),by exact bZ_ HB⟩
  ·replace c5:=Bool.eq_false_iff.mpr c5
   subst c5
   have H1 : (some 2) = some r:=by rw [if_neg (show ¬ (false = true) by decide)] at H;exact H
   clear H
   have H:=H1
   clear H1
   obtain rfl:=Option.some.inj H
   go_enter Tryd.func23,Tryd.ntmps23
   go_wp2_with (first | ((with_reducible refine gate_dst (N:=1) rfl ?_);refine box_event ?hg (N:=1) ?hd (cs:=#[.string a0_0,.slice A0_1 l0_1.length c0_1,.slice A0_2 l0_2.length c0_2,.slice A0_3 l0_3.length c0_3]) (t:=35) ?hr ?_;(case hd=>rfl);(case hg=>rfl);(case hr=>first | (go_simp;done) | (go_simp;rfl));intro gb240 hg w53 hbox hb;have n0_:=aM_ (bT_ (by exact bZ_ HB) hb);have n1_:=aM_ (hbox);have n2_:=aM_ ((by rw [hg];exact (bS_ (by exact bZ_ HB)) : w.heap.size ≤ gb240));have n3_:=aM_ ((by rw [hg];exact (bS_ (by exact bZ_ HB)) : w.heap.size ≤ gb240));clear HB;have HB:=n0_;have BK240:=n1_;have GW240:=n2_;have GE240:=n3_;clear n0_ n1_ n2_ n3_ hb hbox hg;have hcz54_0 : w53.cell? ⟨gb240,0,none⟩ = some (.string a0_0):=(kC_ BK240.out 0).trans rfl;have hcz54_1 : w53.cell? ⟨gb240,1,none⟩ = some (.slice A0_1 l0_1.length c0_1):=(kC_ BK240.out 1).trans rfl;have hcz54_2 : w53.cell? ⟨gb240,2,none⟩ = some (.slice A0_2 l0_2.length c0_2):=(kC_ BK240.out 2).trans rfl;have hcz54_3 : w53.cell? ⟨gb240,3,none⟩ = some (.slice A0_3 l0_3.length c0_3):=(kC_ BK240.out 3).trans rfl;have hfz54_0:=kF_ BK240.out 0;have hfz54_1:=kF_ BK240.out 1;have hfz54_2:=kF_ BK240.out 2;have hfz54_3:=kF_ BK240.out 3) | (go_at_call 60;(with_reducible refine (spec_l9Names.calls k a0_0 _ _ l0_1 _ _ l0_2 _ _ l0_3 true _ ?side1 ?side2 ?side3 ?side4 ?side5 ?side6 A2.out).mono ?_);(case side1=>exact cZ_ HR0_1 HB);(case side2=>exact HC0_1.out);(case side3=>exact cZ_ HR0_2 HB);(case side4=>exact HC0_2.out);(case side5=>exact cZ_ HR0_3 HB);(case side6=>exact HC0_3.out);rintro e w55 ⟨rfl,hb⟩;have n0_:=aM_ (blk_below (g:=gb240) (o:=.cells #[.string a0_0,.slice A0_1 l0_1.length c0_1,.slice A0_2 l0_2.length c0_2,.slice A0_3 l0_3.length c0_3] 35 (0,0)) (by exact kZ_ BK240) hb);have n1_:=aM_ (bT_ (by exact bZ_ HB) hb);clear BK240 HB;have BK240:=n0_;have HB:=n1_;clear n0_ n1_ hb;have hcz56_0 : w55.cell? ⟨gb240,0,none⟩ = some (.string a0_0):=(kC_ BK240.out 0).trans rfl;have hcz56_1 : w55.cell? ⟨gb240,1,none⟩ = some (.slice A0_1 l0_1.length c0_1):=(kC_ BK240.out 1).trans rfl;have hcz56_2 : w55.cell? ⟨gb240,2,none⟩ = some (.slice A0_2 l0_2.length c0_2):=(kC_ BK240.out 2).trans rfl;have hcz56_3 : w55.cell? ⟨gb240,3,none⟩ = some (.slice A0_3 l0_3.length c0_3):=(kC_ BK240.out 3).trans rfl;have hfz56_0:=kF_ BK240.out 0;have hfz56_1:=kF_ BK240.out 1;have hfz56_2:=kF_ BK240.out 2;have hfz56_3:=kF_ BK240.out 3) | (go_at_call 61;(with_reducible refine (spec_l9Types.calls k a0_0 _ _ l0_1 _ _ l0_2 _ _ l0_3 false _ ?side1 ?side2 ?side3 ?side4 ?side5 ?side6 A4.out).mono ?_);(case side1=>exact cZ_ HR0_1 HB);(case side2=>exact HC0_1.out);(case side3=>exact cZ_ HR0_2 HB);(case side4=>exact HC0_2.out);(case side5=>exact cZ_ HR0_3 HB);(case side6=>exact HC0_3.out);rintro e w57 ⟨rfl,hb⟩;have n0_:=aM_ (blk_below (g:=gb240) (o:=.cells #[.string a0_0,.slice A0_1 l0_1.length c0_1,.slice A0_2 l0_2.length c0_2,.slice A0_3 l0_3.length c0_3] 35 (0,0)) (by exact kZ_ BK240) hb);have n1_:=aM_ (bT_ (by exact bZ_ HB) hb);clear BK240 HB;have BK240:=n0_;have HB:=n1_;clear n0_ n1_ hb))
   repeat (go_quiet (first | ((with_reducible refine gate_dst (N:=1) rfl ?_);refine box_event ?hg (N:=1) ?hd (cs:=#[.string a0_0,.slice A0_1 l0_1.length c0_1,.slice A0_2 l0_2.length c0_2,.slice A0_3 l0_3.length c0_3]) (t:=35) ?hr ?_;(case hd=>rfl);(case hg=>rfl);(case hr=>first | (go_simp;done) | (go_simp;rfl));intro gb240 hg w53 hbox hb;have n0_:=aM_ (bT_ (by exact bZ_ HB) hb);have n1_:=aM_ (hbox);have n2_:=aM_ ((by rw [hg];exact (bS_ (by exact bZ_ HB)) : w.heap.size ≤ gb240));have n3_:=aM_ ((by rw [hg];exact (bS_ (by exact bZ_ HB)) : w.heap.size ≤ gb240));clear HB;have HB:=n0_;have BK240:=n1_;have GW240:=n2_;have GE240:=n3_;clear n0_ n1_ n2_ n3_ hb hbox hg;have hcz54_0 : w53.cell? ⟨gb240,0,none⟩ = some (.string a0_0):=(kC_ BK240.out 0).trans rfl;have hcz54_1 : w53.cell? ⟨gb240,1,none⟩ = some (.slice A0_1 l0_1.length c0_1):=(kC_ BK240.out 1).trans rfl;have hcz54_2 : w53.cell? ⟨gb240,2,none⟩ = some (.slice A0_2 l0_2.length c0_2):=(kC_ BK240.out 2).trans rfl;have hcz54_3 : w53.cell? ⟨gb240,3,none⟩ = some (.slice A0_3 l0_3.length c0_3):=(kC_ BK240.out 3).trans rfl;have hfz54_0:=kF_ BK240.out 0;have hfz54_1:=kF_ BK240.out 1;have hfz54_2:=kF_ BK240.out 2;have hfz54_3:=kF_ BK240.out 3) | (go_at_call 60;(with_reducible refine (spec_l9Names.calls k a0_0 _ _ l0_1 _ _ l0_2 _ _ l0_3 true _ ?side1 ?side2 ?side3 ?side4 ?side5 ?side6 A2.out).mono ?_);(case side1=>exact cZ_ HR0_1 HB);(case side2=>exact HC0_1.out);(case side3=>exact cZ_ HR0_2 HB);(case side4=>exact HC0_2.out);(case side5=>exact cZ_ HR0_3 HB);(case side6=>exact HC0_3.out);rintro e w55 ⟨rfl,hb⟩;have n0_:=aM_ (blk_below (g:=gb240) (o:=.cells #[.string a0_0,.slice A0_1 l0_1.length c0_1,.slice A0_2 l0_2.length c0_2,.slice A0_3 l0_3.length c0_3] 35 (0,0)) (by exact kZ_ BK240) hb);have n1_:=aM_ (bT_ (by exact bZ_ HB) hb);clear BK240 HB;have BK240:=n0_;have HB:=n1_;clear n0_ n1_;(try clear hb);(try clear hb2);(try clear hk);(try clear hi);have hcz56_0 : w55.cell? ⟨gb240,0,none⟩ = some (.string a0_0):=(kC_ BK240.out 0).trans rfl;have hcz56_1 : w55.cell? ⟨gb240,1,none⟩ = some (.slice A0_1 l0_1.length c0_1):=(kC_ BK240.out 1).trans rfl;have hcz56_2 : w55.cell? ⟨gb240,2,none⟩ = some (.slice A0_2 l0_2.length c0_2):=(kC_ BK240.out 2).trans rfl;have hcz56_3 : w55.cell? ⟨gb240,3,none⟩ = some (.slice A0_3 l0_3.length c0_3):=(kC_ BK240.out 3).trans rfl;have hfz56_0:=kF_ BK240.out 0;have hfz56_1:=kF_ BK240.out 1;have hfz56_2:=kF_ BK240.out 2;have hfz56_3:=kF_ BK240.out 3) | (go_at_call 61;(with_reducible refine (spec_l9Types.calls k a0_0 _ _ l0_1 _ _ l0_2 _ _ l0_3 false _ ?side1 ?side2 ?side3 ?side4 ?side5 ?side6 A4.out).mono ?_);(case side1=>exact cZ_ HR0_1 HB);(case side2=>exact HC0_1.out);(case side3=>exact cZ_ HR0_2 HB);(case side4=>exact HC0_2.out);(case side5=>exact cZ_ HR0_3 HB);(case side6=>exact HC0_3.out);rintro e w57 ⟨rfl,hb⟩;have n0_:=aM_ (blk_below (g:=gb240) (o:=.cells #[.string a0_0,.slice A0_1 l0_1.length c0_1,.slice A0_2 l0_2.length c0_2,.slice A0_3 l0_3.length c0_3] 35 (0,0)) (by exact kZ_ BK240) hb);have n1_:=aM_ (bT_ (by exact bZ_ HB) hb);clear BK240 HB;have BK240:=n0_;have HB:=n1_;clear n0_ n1_;(try clear hb);(try clear hb2);(try clear hk);(try clear hi)));try go_wp2_with (first | ((with_reducible refine gate_dst (N:=1) rfl ?_);refine box_event ?hg (N:=1) ?hd (cs:=#[.string a0_0,.slice A0_1 l0_1.length c0_1,.slice A0_2 l0_2.length c0_2,.slice A0_3 l0_3.length c0_3]) (t:=35) ?hr ?_;(case hd=>rfl);(case hg=>rfl);(case hr=>first | (go_simp;done) | (go_simp;rfl));intro gb240 hg w53 hbox hb;have n0_:=aM_ (bT_ (by exact bZ_ HB) hb);have n1_:=aM_ (hbox);have n2_:=aM_ ((by rw [hg];exact (bS_ (by exact bZ_ HB)) : w.heap.size ≤ gb240));have n3_:=aM_ ((by rw [hg];exact (bS_ (by exact bZ_ HB)) : w.heap.size ≤ gb240));clear HB;have HB:=n0_;have BK240:=n1_;have GW240:=n2_;have GE240:=n3_;clear n0_ n1_ n2_ n3_ hb hbox hg;have hcz54_0 : w53.cell? ⟨gb240,0,none⟩ = some (.string a0_0):=(kC_ BK240.out 0).trans rfl;have hcz54_1 : w53.cell? ⟨gb240,1,none⟩ = some (.slice A0_1 l0_1.length c0_1):=(kC_ BK240.out 1).trans rfl;have hcz54_2 : w53.cell? ⟨gb240,2,none⟩ = some (.slice A0_2 l0_2.length c0_2):=(kC_ BK240.out 2).trans rfl;have hcz54_3 : w53.cell? ⟨gb240,3,none⟩ = some (.slice A0_3 l0_3.length c0_3):=(kC_ BK240.out 3).trans rfl;have hfz54_0:=kF_ BK240.out 0;have hfz54_1:=kF_ BK240.out 1;have hfz54_2:=kF_ BK240.out 2;have hfz54_3:=kF_ BK240.out 3) | (go_at_call 60;(with_reducible refine (spec_l9Names.calls k a0_0 _ _ l0_1 _ _ l0_2 _ _ l0_3 true _ ?side1 ?side2 ?side3 ?side4 ?side5 ?side6 A2.out).mono ?_);(case side1=>exact cZ_ HR0_1 HB);(case side2=>exact HC0_1.out);(case side3=>exact cZ_ HR0_2 HB);(case side4=>exact HC0_2.out);(case side5=>exact cZ_ HR0_3 HB);(case side6=>exact HC0_3.out);rintro e w55 ⟨rfl,hb⟩;have n0_:=aM_ (blk_below (g:=gb240) (o:=.cells #[.string a0_0,.slice A0_1 l0_1.length c0_1,.slice A0_2 l0_2.length c0_2,.slice A0_3 l0_3.length c0_3] 35 (0,0)) (by exact kZ_ BK240) hb);have n1_:=aM_ (bT_ (by exact bZ_ HB) hb);clear BK240 HB;have BK240:=n0_;have HB:=n1_;clear n0_ n1_;(try clear hb);(try clear hb2);(try clear hk);(try clear hi);have hcz56_0 : w55.cell? ⟨gb240,0,none⟩ = some (.string a0_0):=(kC_ BK240.out 0).trans rfl;have hcz56_1 : w55.cell? ⟨gb240,1,none⟩ = some (.slice A0_1 l0_1.length c0_1):=(kC_ BK240.out 1).trans rfl;have hcz56_2 : w55.cell? ⟨gb240,2,none⟩ = some (.slice A0_2 l0_2.length c0_2):=(kC_ BK240.out 2).trans rfl;have hcz56_3 : w55.cell? ⟨gb240,3,none⟩ = some (.slice A0_3 l0_3.length c0_3):=(kC_ BK240.out 3).trans rfl;have hfz56_0:=kF_ BK240.out 0;have hfz56_1:=kF_ BK240.out 1;have hfz56_2:=kF_ BK240.out 2;have hfz56_3:=kF_ BK240.out 3) | (go_at_call 61;(with_reducible refine (spec_l9Types.calls k a0_0 _ _ l0_1 _ _ l0_2 _ _ l0_3 false _ ?side1 ?side2 ?side3 ?side4 ?side5 ?side6 A4.out).mono ?_);(case side1=>exact cZ_ HR0_1 HB);(case side2=>exact HC0_1.out);(case side3=>exact cZ_ HR0_2 HB);(case side4=>exact HC0_2.out);(case side5=>exact cZ_ HR0_3 HB);(case side6=>exact HC0_3.out);rintro e w57 ⟨rfl,hb⟩;have n0_:=aM_ (blk_below (g:=gb240) (o:=.cells #[.string a0_0,.slice A0_1 l0_1.length c0_1,.slice A0_2 l0_2.length c0_2,.slice A0_3 l0_3.length c0_3] 35 (0,0)) (by exact kZ_ BK240) hb);have n1_:=aM_ (bT_ (by exact bZ_ HB) hb);clear BK240 HB;have BK240:=n0_;have HB:=n1_;clear n0_ n1_;(try clear hb);(try clear hb2);(try clear hk);(try clear hi))))
   go_ret
   exact ⟨by first | rfl | (simp [errW_none,errW_some] <;> rfl) | (simp [*, errW_none,errW_some] <;> rfl),by exact bZ_ HB⟩
 ·replace c3:=Bool.eq_false_iff.mpr c3
  subst c3
  have H1 : (some 1) = some r:=by rw [if_neg (show ¬ (false = true) by decide)] at H;exact H
  clear H
  have H:=H1
  clear H1
  obtain rfl:=Option.some.inj H
  go_enter Tryd.func23,Tryd.ntmps23
  go_wp2_with (first | ((with_reducible refine gate_dst (N:=1) rfl ?_);refine box_event ?hg (N:=1) ?hd (cs:=#[.string a0_0,.slice A0_1 l0_1.length c0_1,.slice A0_2 l0_2.length c0_2,.slice A0_3 l0_3.length c0_3]) (t:=35) ?hr ?_;(case hd=>rfl);(case hg=>rfl);(case hr=>first | (go_simp;done) | (go_simp;rfl));intro gb240 hg w58 hbox hb;have n0_:=aM_ (bT_ (by exact bZ_ HB) hb);have n1_:=aM_ (hbox);have n2_:=aM_ ((by rw [hg];exact (bS_ (by exact bZ_ HB)) : w.heap.size ≤ gb240));have n3_:=aM_ ((by rw [hg];exact (bS_ (by exact bZ_ HB)) : w.heap.size ≤ gb240));clear HB;have HB:=n0_;have BK240:=n1_;have GW240:=n2_;have GE240:=n3_;clear n0_ n1_ n2_ n3_ hb hbox hg;have hcz59_0 : w58.cell? ⟨gb240,0,none⟩ = some (.string a0_0):=(kC_ BK240.out 0).trans rfl;have hcz59_1 : w58.cell? ⟨gb240,1,none⟩ = some (.slice A0_1 l0_1.length c0_1):=(kC_ BK240.out 1).trans rfl;have hcz59_2 : w58.cell? ⟨gb240,2,none⟩ = some (.slice A0_2 l0_2.length c0_2):=(kC_ BK240.out 2).trans rfl;have hcz59_3 : w58.cell? ⟨gb240,3,none⟩ = some (.slice A0_3 l0_3.length c0_3):=(kC_ BK240.out 3).trans rfl;have hfz59_0:=kF_ BK240.out 0;have hfz59_1:=kF_ BK240.out 1;have hfz59_2:=kF_ BK240.out 2;have hfz59_3:=kF_ BK240.out 3) | (go_at_call 60;(with_reducible refine (spec_l9Names.calls k a0_0 _ _ l0_1 _ _ l0_2 _ _ l0_3 false _ ?side1 ?side2 ?side3 ?side4 ?side5 ?side6 A2.out).mono ?_);(case side1=>exact cZ_ HR0_1 HB);(case side2=>exact HC0_1.out);(case side3=>exact cZ_ HR0_2 HB);(case side4=>exact HC0_2.out);(case side5=>exact cZ_ HR0_3 HB);(case side6=>exact HC0_3.out);rintro e w60 ⟨rfl,hb⟩;have n0_:=aM_ (blk_below (g:=gb240) (o:=.cells #[.string a0_0,.slice A0_1 l0_1.length c0_1,.slice A0_2 l0_2.length c0_2,.slice A0_3 l0_3.length c0_3] 35 (0,0)) (by exact kZ_ BK240) hb);have n1_:=aM_ (bT_ (by exact bZ_ HB) hb);clear BK240 HB;have BK240:=n0_;have HB:=n1_;clear n0_ n1_ hb))
  repeat (go_quiet (first | ((with_reducible refine gate_dst (N:=1) rfl ?_);refine box_event ?hg (N:=1) ?hd (cs:=#[.string a0_0,.slice A0_1 l0_1.length c0_1,.slice A0_2 l0_2.length c0_2,.slice A0_3 l0_3.length c0_3]) (t:=35) ?hr ?_;(case hd=>rfl);(case hg=>rfl);(case hr=>first | (go_simp;done) | (go_simp;rfl));intro gb240 hg w58 hbox hb;have n0_:=aM_ (bT_ (by exact bZ_ HB) hb);have n1_:=aM_ (hbox);have n2_:=aM_ ((by rw [hg];exact (bS_ (by exact bZ_ HB)) : w.heap.size ≤ gb240));have n3_:=aM_ ((by rw [hg];exact (bS_ (by exact bZ_ HB)) : w.heap.size ≤ gb240));clear HB;have HB:=n0_;have BK240:=n1_;have GW240:=n2_;have GE240:=n3_;clear n0_ n1_ n2_ n3_ hb hbox hg;have hcz59_0 : w58.cell? ⟨gb240,0,none⟩ = some (.string a0_0):=(kC_ BK240.out 0).trans rfl;have hcz59_1 : w58.cell? ⟨gb240,1,none⟩ = some (.slice A0_1 l0_1.length c0_1):=(kC_ BK240.out 1).trans rfl;have hcz59_2 : w58.cell? ⟨gb240,2,none⟩ = some (.slice A0_2 l0_2.length c0_2):=(kC_ BK240.out 2).trans rfl;have hcz59_3 : w58.cell? ⟨gb240,3,none⟩ = some (.slice A0_3 l0_3.length c0_3):=(kC_ BK240.out 3).trans rfl;have hfz59_0:=kF_ BK240.out 0;have hfz59_1:=kF_ BK240.out 1;have hfz59_2:=kF_ BK240.out 2;have hfz59_3:=kF_ BK240.out 3) | (go_at_call 60;(with_reducible refine (spec_l9Names.calls k a0_0 _ _ l0_1 _ _ l0_2 _ _ l0_3 false _ ?side1 ?side2 ?side3 ?side4 ?side5 ?side6 A2.out).mono ?_);(case side1=>exact cZ_ HR0_1 HB);(case side2=>exact HC0_1.out);(case side3=>exact cZ_ HR0_2 HB);(case side4=>exact HC0_2.out);(case side5=>exact cZ_ HR0_3 HB);(case side6=>exact HC0_3.out);rintro e w60 ⟨rfl,hb⟩;have n0_:=aM_ (blk_below (g:=gb240) (o:=.cells #[.string a0_0,.slice A0_1 l0_1.length c0_1,.slice A0_2 l0_2.length c0_2,.slice A0_3 l0_3.length c0_3] 35 (0,0)) (by exact kZ_ BK240) hb);have n1_:=aM_ (bT_ (by exact bZ_ HB) hb);clear BK240 HB;have BK240:=n0_;have HB:=n1_;clear n0_ n1_;(try clear hb);(try clear hb2);(try clear hk);(try clear hi)));try go_wp2_with (first | ((with_reducible refine gate_dst (N:=1) rfl ?_);refine box_event ?hg (N:=1) ?hd (cs:=#[.string a0_0,.slice A0_1 l0_1.length c0_1,.slice A0_2 l0_2.length c0_2,.slice A0_3 l0_3.length c0_3]) (t:=35) ?hr ?_;(case hd=>rfl);(case hg=>rfl);(case hr=>first | (go_simp;done) | (go_simp;rfl));intro gb240 hg w58 hbox hb;have n0_:=aM_ (bT_ (by exact bZ_ HB) hb);have n1_:=aM_ (hbox);have n2_:=aM_ ((by rw [hg];exact (bS_ (by exact bZ_ HB)) : w.heap.size ≤ gb240));have n3_:=aM_ ((by rw [hg];exact (bS_ (by exact bZ_ HB)) : w.heap.size ≤ gb240));clear HB;have HB:=n0_;have BK240:=n1_;have GW240:=n2_;have GE240:=n3_;clear n0_ n1_ n2_ n3_ hb hbox hg;have hcz59_0 : w58.cell? ⟨gb240,0,none⟩ = some (.string a0_0):=(kC_ BK240.out 0).trans rfl;have hcz59_1 : w58.cell? ⟨gb240,1,none⟩ = some (.slice A0_1 l0_1.length c0_1):=(kC_ BK240.out 1).trans rfl;have hcz59_2 : w58.cell? ⟨gb240,2,none⟩ = some (.slice A0_2 l0_2.length c0_2):=(kC_ BK240.out 2).trans rfl;have hcz59_3 : w58.cell? ⟨gb240,3,none⟩ = some (.slice A0_3 l0_3.length c0_3):=(kC_ BK240.out 3).trans rfl;have hfz59_0:=kF_ BK240.out 0;have hfz59_1:=kF_ BK240.out 1;have hfz59_2:=kF_ BK240.out 2;have hfz59_3:=kF_ BK240.out 3) | (go_at_call 60;(with_reducible refine (spec_l9Names.calls k a0_0 _ _ l0_1 _ _ l0_2 _ _ l0_3 false _ ?side1 ?side2 ?side3 ?side4 ?side5 ?side6 A2.out).mono ?_);(case side1=>exact cZ_ HR0_1 HB);(case side2=>exact HC0_1.out);(case side3=>exact cZ_ HR0_2 HB);(case side4=>exact HC0_2.out);(case side5=>exact cZ_ HR0_3 HB);(case side6=>exact HC0_3.out);rintro e w60 ⟨rfl,hb⟩;have n0_:=aM_ (blk_below (g:=gb240) (o:=.cells #[.string a0_0,.slice A0_1 l0_1.length c0_1,.slice A0_2 l0_2.length c0_2,.slice A0_3 l0_3.length c0_3] 35 (0,0)) (by exact kZ_ BK240) hb);have n1_:=aM_ (bT_ (by exact bZ_ HB) hb);clear BK240 HB;have BK240:=n0_;have HB:=n1_;clear n0_ n1_;(try clear hb);(try clear hb2);(try clear hk);(try clear hi))))
  go_ret
  exact ⟨by first | rfl | (simp [errW_none,errW_some] <;> rfl) | (simp [*, errW_none,errW_some] <;> rfl),by exact bZ_ HB⟩
def spec_l9Type.f (a0 : Int) : Option (ByteArray):=(some (([(⟨#[]⟩ : ByteArray),(⟨#[105,110,116]⟩ : ByteArray),(⟨#[110,117,109]⟩ : ByteArray),(⟨#[116,101,120,116]⟩ : ByteArray),(⟨#[98,111,111,108]⟩ : ByteArray)] : List ByteArray) : List ByteArray)).bind fun y247=>(if 0 ≤ a0 then (if a0 < (y247.length : Int) then (some (rdOf ByteArray.empty y247 a0)) else (none)) else (none))
set_option maxHeartbeats 8000000 in
set_option maxRecDepth 100000 in
theorem spec_l9Type.calls (a0 : Int) (r : ByteArray) (w : World) (h : spec_l9Type.f a0 = some r) :
  Calls Tryd.prog 66 #[.int .i64 a0] w fun e w'=>e = .returned (.string r) ∧ Below w.heap.size w w':=by
 have HB:=aM_ (Below.refl w.heap.size w)
 have H : ((some (([(⟨#[]⟩ : ByteArray),(⟨#[105,110,116]⟩ : ByteArray),(⟨#[110,117,109]⟩ : ByteArray),(⟨#[116,101,120,116]⟩ : ByteArray),(⟨#[98,111,111,108]⟩ : ByteArray)] : List ByteArray) : List ByteArray)).bind fun y247=>(if 0 ≤ a0 then (if a0 < (y247.length : Int) then (some (rdOf ByteArray.empty y247 a0)) else (none)) else (none))) = some r:=h
 clear h
 obtain ⟨y247,hy247⟩ : ∃ y_ : List ByteArray,y_ = (([(⟨#[]⟩ : ByteArray),(⟨#[105,110,116]⟩ : ByteArray),(⟨#[110,117,109]⟩ : ByteArray),(⟨#[116,101,120,116]⟩ : ByteArray),(⟨#[98,111,111,108]⟩ : ByteArray)] : List ByteArray)):=⟨_,rfl⟩
 replace H : (if 0 ≤ a0 then (if a0 < (y247.length : Int) then (some (rdOf ByteArray.empty y247 a0)) else (none)) else (none)) = some r:=by first | (rw [hy247];with_reducible exact H) | (have H2_:=(Option.bind_some _ _).symm.trans H;rw [hy247];with_reducible exact H2_) | (have H2_:=(Option.bind_some _ _).symm.trans H;with_reducible exact H2_) | with_reducible exact H | (rw [hy247];exact H) | exact H
 have Ny247:=aM_ hy247
 clear hy247
 by_cases c2 : 0 ≤ a0
 ·rw [if_pos c2] at H
  have c2b0 : decide (0 ≤ a0) = true:=decide_eq_true c2
  clear c2
  by_cases c3 : a0 < (y247.length : Int)
  ·rw [if_pos c3] at H
   have c3b0 : decide (a0 < (y247.length : Int)) = true:=decide_eq_true c3
   clear c3
   obtain rfl:=Option.some.inj H
   go_enter Tryd.func66,Tryd.ntmps66
   go_wp2_with (first | ((with_reducible refine gate_dst (N:=4) rfl ?_);refine Kd.R_lit Kd.string _ 9 ?hg (N:=4) ?hd (xs:=([(⟨#[]⟩ : ByteArray),(⟨#[105,110,116]⟩ : ByteArray),(⟨#[110,117,109]⟩ : ByteArray),(⟨#[116,101,120,116]⟩ : ByteArray),(⟨#[98,111,111,108]⟩ : ByteArray)] : List ByteArray)) (inner:=[.string (⟨#[]⟩ : ByteArray),.string (⟨#[105,110,116]⟩ : ByteArray),.string (⟨#[110,117,109]⟩ : ByteArray),.string (⟨#[116,101,120,116]⟩ : ByteArray),.string (⟨#[98,111,111,108]⟩ : ByteArray)]) (ok:=fun _=>True) (okp:=fun _=>True) ?hr ?hp (fun _ hk=>hk) trivial (Below.refl _ _) (Nat.le_refl _) (by simp) ?_;(case hd=>rfl);(case hg=>rfl);(case hr=>first | (go_simp;done) | (go_simp;rfl));(case hp=>exact (Reps.one (show Kd.M Kd.string _ _ _ (⟨#[]⟩ : ByteArray) [.string (⟨#[]⟩ : ByteArray)] from rfl) (Reps.one (show Kd.M Kd.string _ _ _ (⟨#[105,110,116]⟩ : ByteArray) [.string (⟨#[105,110,116]⟩ : ByteArray)] from rfl) (Reps.one (show Kd.M Kd.string _ _ _ (⟨#[110,117,109]⟩ : ByteArray) [.string (⟨#[110,117,109]⟩ : ByteArray)] from rfl) (Reps.one (show Kd.M Kd.string _ _ _ (⟨#[116,101,120,116]⟩ : ByteArray) [.string (⟨#[116,101,120,116]⟩ : ByteArray)] from rfl) (Reps.one (show Kd.M Kd.string _ _ _ (⟨#[98,111,111,108]⟩ : ByteArray) [.string (⟨#[98,111,111,108]⟩ : ByteArray)] from rfl) (Reps.none _ _)))))));intro v248 w4 ho5 hb hg_ hnew_;clear hg_ hnew_;(first | rw [← Ny247.out] at ho5 | (simp only [Int.reduceToNat] at ho5;rw [← Ny247.out] at ho5));have n0_:=aM_ (Kd.R_lower ho5 (bS_ (by exact bZ_ HB)));have n1_:=aM_ (bT_ (by exact bZ_ HB) hb);clear HB;have HO249:=n0_;have HB:=n1_;clear n0_ n1_ hb ho5;obtain ⟨Ao6,co6,eo6⟩:=Kd.R_slice HO249.out;subst eo6;have p250 : 0 ≤ (a0 : Int):=oT_ (by first | (with_reducible assumption) | assumption);have q250 : a0 < (y247.length : Int):=oT_ (by first | (with_reducible assumption) | assumption);obtain ⟨ad250,e250,hx250_0⟩:=Kd.at_string (Kd.R_reads' HO249.out).2.2 a0 p250 q250;cases e250;replace p250:=eq_true p250;replace q250:=eq_true q250))
   go_ret
   exact ⟨by first | rfl | (simp [errW_none,errW_some] <;> rfl) | (simp [*, errW_none,errW_some] <;> rfl),by exact bZ_ HB⟩
  ·rw [if_neg c3] at H
   exact absurd H (by simp)
 ·rw [if_neg c2] at H
  exact absurd H (by simp)
def spec_l9PartsText.l0 : Nat → List (S85) → ByteArray → Int → ByteArray → List (S82) → List (S85) → List (S69) → Option (ByteArray)
 | 0,_,_,_,_,_,_,_=>none
 | k + 1,x1,x5,x6,x252000,x252001,x252002,x252003=>if x6 < (x1.length : Int) then (if x6 > 0 then (if x5.size + 2 ≤ 9223372036854775807 then (if 0 ≤ x6 then (if 0 ≤ ((rd_T85 x1 x6).f0) then (if ((rd_T85 x1 x6).f0) < (x252001.length : Int) then (if (x5 ++ (⟨#[44,32]⟩ : ByteArray)).size + ((rd_T82 x252001 ((rd_T85 x1 x6).f0)).f0).size ≤ 9223372036854775807 then (if (rd_T85 x1 x6).f1 = true then (if ((x5 ++ (⟨#[44,32]⟩ : ByteArray)) ++ ((rd_T82 x252001 ((rd_T85 x1 x6).f0)).f0)).size + 5 ≤ 9223372036854775807 then (spec_l9PartsText.l0 k x1 (((x5 ++ (⟨#[44,32]⟩ : ByteArray)) ++ ((rd_T82 x252001 ((rd_T85 x1 x6).f0)).f0)) ++ (⟨#[32,100,101,115,99]⟩ : ByteArray)) (wrap64 (x6 + 1)) x252000 x252001 x252002 x252003) else (none)) else (spec_l9PartsText.l0 k x1 ((x5 ++ (⟨#[44,32]⟩ : ByteArray)) ++ ((rd_T82 x252001 ((rd_T85 x1 x6).f0)).f0)) (wrap64 (x6 + 1)) x252000 x252001 x252002 x252003)) else (none)) else (none)) else (none)) else (none)) else (none)) else (if 0 ≤ x6 then (if 0 ≤ ((rd_T85 x1 x6).f0) then (if ((rd_T85 x1 x6).f0) < (x252001.length : Int) then (if x5.size + ((rd_T82 x252001 ((rd_T85 x1 x6).f0)).f0).size ≤ 9223372036854775807 then (if (rd_T85 x1 x6).f1 = true then (if (x5 ++ ((rd_T82 x252001 ((rd_T85 x1 x6).f0)).f0)).size + 5 ≤ 9223372036854775807 then (spec_l9PartsText.l0 k x1 ((x5 ++ ((rd_T82 x252001 ((rd_T85 x1 x6).f0)).f0)) ++ (⟨#[32,100,101,115,99]⟩ : ByteArray)) (wrap64 (x6 + 1)) x252000 x252001 x252002 x252003) else (none)) else (spec_l9PartsText.l0 k x1 (x5 ++ ((rd_T82 x252001 ((rd_T85 x1 x6).f0)).f0)) (wrap64 (x6 + 1)) x252000 x252001 x252002 x252003)) else (none)) else (none)) else (none)) else (none))) else (if x5.size + 2 ≤ 9223372036854775807 then (some (x5 ++ (⟨#[59,32]⟩ : ByteArray))) else (none))
def spec_l9PartsText.f (k : Nat) (a0_0 : ByteArray) (l0_1 : List (S82)) (l0_2 : List (S85)) (l0_3 : List (S69)) (l1 : List (S85)) : Option (ByteArray):=spec_l9PartsText.l0 k l1 (⟨#[]⟩ : ByteArray) 0 a0_0 l0_1 l0_2 l0_3
theorem spec_l9PartsText.mono_l : ∀ k,(∀ y0 y1 y2 y3 y4 y5 y6,LeO (spec_l9PartsText.l0 k y0 y1 y2 y3 y4 y5 y6) (spec_l9PartsText.l0 (k + 1) y0 y1 y2 y3 y4 y5 y6))
 | 0=>fun _ _ _ _ _ _ _ r h=>by simp [spec_l9PartsText.l0] at h
 | k + 1=>by
  have ih0:=spec_l9PartsText.mono_l k
  ·intro y0 y1 y2 y3 y4 y5 y6
   unfold spec_l9PartsText.l0
   repeat' first
   | (with_reducible exact ih0 _ _ _ _ _ _ _)
   | (with_reducible exact LeO.refl _)
   | (with_reducible exact LeO.none _)
   | (with_reducible refine LeO.ite ?_ ?_)
   | (with_reducible refine LeO.bind ?_ (fun _=>?_))
   | exact ih0 _ _ _ _ _ _ _
   | exact LeO.none _
   | refine LeO.ite ?_ ?_
   | refine LeO.bind ?_ (fun _=>?_)
theorem spec_l9PartsText.mono : ∀ a0 a1 a2 a3 a4 k,LeO (spec_l9PartsText.f k a0 a1 a2 a3 a4) (spec_l9PartsText.f (k + 1) a0 a1 a2 a3 a4):=by
 intro a0 a1 a2 a3 a4 k
 have ih0:=spec_l9PartsText.mono_l k
 unfold spec_l9PartsText.f
 repeat' first
   | (with_reducible exact ih0 _ _ _ _ _ _ _)
   | (with_reducible exact LeO.refl _)
   | (with_reducible exact LeO.none _)
   | (with_reducible refine LeO.ite ?_ ?_)
   | (with_reducible refine LeO.bind ?_ (fun _=>?_))
   | exact ih0 _ _ _ _ _ _ _
   | exact LeO.none _
   | refine LeO.ite ?_ ?_
   | refine LeO.bind ?_ (fun _=>?_)
set_option maxHeartbeats 8000000 in
set_option maxRecDepth 100000 in
theorem spec_l9PartsText.calls (k : Nat) (a0_0 : ByteArray) (A0_1 : Option Addr) (c0_1 : Nat) (l0_1 : List (S82)) (A0_2 : Option Addr) (c0_2 : Nat) (l0_2 : List (S85)) (A0_3 : Option Addr) (c0_3 : Nat) (l0_3 : List (S69)) (A1 : Option Addr) (c1 : Nat) (l1 : List (S85)) (r : ByteArray) (w : World) (hr0_1 : Kd.C k82 w A0_1 l0_1.length l0_1) (hc0_1 : l0_1.length ≤ c0_1) (hr0_2 : Kd.C k85 w A0_2 l0_2.length l0_2) (hc0_2 : l0_2.length ≤ c0_2) (hr0_3 : Kd.C k69 w A0_3 l0_3.length l0_3) (hc0_3 : l0_3.length ≤ c0_3) (hr1 : Kd.C k85 w A1 l1.length l1) (hc1 : l1.length ≤ c1) (h : spec_l9PartsText.f k a0_0 l0_1 l0_2 l0_3 l1 = some r) :
  Calls Tryd.prog 67 #[.agg #[.string a0_0,.slice A0_1 l0_1.length c0_1,.slice A0_2 l0_2.length c0_2,.slice A0_3 l0_3.length c0_3],.slice A1 l1.length c1] w fun e w'=>e = .returned (.string r) ∧ Below w.heap.size w w':=by
 have hu35:=Tryd.underlying35
 have HR0_1:=aM_ hr0_1
 have HC0_1:=aM_ hc0_1
 clear hr0_1 hc0_1
 have HR0_2:=aM_ hr0_2
 have HC0_2:=aM_ hc0_2
 clear hr0_2 hc0_2
 have HR0_3:=aM_ hr0_3
 have HC0_3:=aM_ hc0_3
 clear hr0_3 hc0_3
 have HR1:=aM_ hr1
 have HC1:=aM_ hc1
 clear hr1 hc1
 have HB:=aM_ (Below.refl w.heap.size w)
 have H : (spec_l9PartsText.l0 k l1 (⟨#[]⟩ : ByteArray) 0 a0_0 l0_1 l0_2 l0_3) = some r:=h
 clear h
 have H':=aM_ H
 clear H
 go_enter Tryd.func67,Tryd.ntmps67
 go_wp2_with (first | ((with_reducible refine gate_dst (N:=2) rfl ?_);refine box_event ?hg (N:=2) ?hd (cs:=#[.string a0_0,.slice A0_1 l0_1.length c0_1,.slice A0_2 l0_2.length c0_2,.slice A0_3 l0_3.length c0_3]) (t:=35) ?hr ?_;(case hd=>rfl);(case hg=>rfl);(case hr=>first | (go_simp;done) | (go_simp;rfl));intro gb251 hg w3 hbox hb;have n0_:=aM_ (bT_ (by exact bZ_ HB) hb);have n1_:=aM_ (hbox);have n2_:=aM_ ((by rw [hg];exact (bS_ (by exact bZ_ HB)) : w.heap.size ≤ gb251));have n3_:=aM_ ((by rw [hg];exact (bS_ (by exact bZ_ HB)) : w.heap.size ≤ gb251));clear HB;have HB:=n0_;have BK251:=n1_;have GW251:=n2_;have GE251:=n3_;clear n0_ n1_ n2_ n3_ hb hbox hg))
 repeat (go_quiet (first | ((with_reducible refine gate_dst (N:=2) rfl ?_);refine box_event ?hg (N:=2) ?hd (cs:=#[.string a0_0,.slice A0_1 l0_1.length c0_1,.slice A0_2 l0_2.length c0_2,.slice A0_3 l0_3.length c0_3]) (t:=35) ?hr ?_;(case hd=>rfl);(case hg=>rfl);(case hr=>first | (go_simp;done) | (go_simp;rfl));intro gb251 hg w3 hbox hb;have n0_:=aM_ (bT_ (by exact bZ_ HB) hb);have n1_:=aM_ (hbox);have n2_:=aM_ ((by rw [hg];exact (bS_ (by exact bZ_ HB)) : w.heap.size ≤ gb251));have n3_:=aM_ ((by rw [hg];exact (bS_ (by exact bZ_ HB)) : w.heap.size ≤ gb251));clear HB;have HB:=n0_;have BK251:=n1_;have GW251:=n2_;have GE251:=n3_;clear n0_ n1_ n2_ n3_ hb hbox hg));try go_wp2_with (first | ((with_reducible refine gate_dst (N:=2) rfl ?_);refine box_event ?hg (N:=2) ?hd (cs:=#[.string a0_0,.slice A0_1 l0_1.length c0_1,.slice A0_2 l0_2.length c0_2,.slice A0_3 l0_3.length c0_3]) (t:=35) ?hr ?_;(case hd=>rfl);(case hg=>rfl);(case hr=>first | (go_simp;done) | (go_simp;rfl));intro gb251 hg w3 hbox hb;have n0_:=aM_ (bT_ (by exact bZ_ HB) hb);have n1_:=aM_ (hbox);have n2_:=aM_ ((by rw [hg];exact (bS_ (by exact bZ_ HB)) : w.heap.size ≤ gb251));have n3_:=aM_ ((by rw [hg];exact (bS_ (by exact bZ_ HB)) : w.heap.size ≤ gb251));clear HB;have HB:=n0_;have BK251:=n1_;have GW251:=n2_;have GE251:=n3_;clear n0_ n1_ n2_ n3_ hb hbox hg)))
 (try simp only [Act.put,sI_,sS_,sZ_])
 go_loopg [5,6] k (fun kq v5 v6 w'=>∃ (x5_1 : ByteArray) (x6_1 : Int),v5 = .string x5_1 ∧ v6 = .int .i64 x6_1 ∧ Aside0 (spec_l9PartsText.l0 kq l1 x5_1 x6_1 a0_0 l0_1 l0_2 l0_3 = some r) ∧ Aside0 (kq ≤ k) ∧ Aside0 (w'.heap[gb251]? = some (.cells #[.string a0_0,(.slice A0_1 l0_1.length c0_1),(.slice A0_2 l0_2.length c0_2),(.slice A0_3 l0_3.length c0_3)] 35 (0,0))) ∧ Aside0 (Below w.heap.size w w'))
 case atStart=>exact ⟨((⟨#[]⟩ : ByteArray)),(0),(by first | rfl | (simp;done) | (simp [*];done)),(by first | rfl | (simp;done) | (simp [*];done)),H', ⟨Nat.le_refl _⟩,⟨by exact kZ_ BK251⟩,⟨by exact bZ_ HB⟩⟩
 case round =>
  clear H'
  obtain ⟨x5_1,x6_1,rfl,rfl,HA,HK1,BK251,HB⟩:=hrel
  cases gk with
  | zero=>exact absurd HA.out (by simp [spec_l9PartsText.l0])
  | succ k1 =>
   have H:=HA.out
   clear HA
   simp only [spec_l9PartsText.l0] at H
   by_cases c4 : x6_1 < (l1.length : Int)
   ·rw [if_pos c4] at H
    have c4b0 : decide (x6_1 < (l1.length : Int)) = true:=decide_eq_true c4
    clear c4
    by_cases c5 : x6_1 > 0
    ·rw [if_pos c5] at H
     have c5b0 : decide (0 < x6_1) = true:=decide_eq_true c5
     clear c5
     by_cases c6 : x5_1.size + 2 ≤ 9223372036854775807
     ·rw [if_pos c6] at H
      have c6b0:=eq_true c6
      have c6b1 : decide (x5_1.size + 2 ≤ 9223372036854775807) = true:=decide_eq_true c6
      try have c6b2 : (9223372036854775807 < x5_1.size + 2) = False:=eq_false (Nat.not_lt.2 c6)
      by_cases c7 : 0 ≤ x6_1
      ·rw [if_pos c7] at H
       have c7b0 : decide (0 ≤ x6_1) = true:=decide_eq_true c7
       clear c7
       by_cases c8 : 0 ≤ ((rd_T85 l1 x6_1).f0)
       ·rw [if_pos c8] at H
        have c8b0 : decide (0 ≤ ((rd_T85 l1 x6_1).f0)) = true:=decide_eq_true c8
        clear c8
        by_cases c9 : ((rd_T85 l1 x6_1).f0) < (l0_1.length : Int)
        ·rw [if_pos c9] at H
         have c9b0 : decide (((rd_T85 l1 x6_1).f0) < (l0_1.length : Int)) = true:=decide_eq_true c9
         clear c9
         by_cases c10 : (x5_1 ++ (⟨#[44,32]⟩ : ByteArray)).size + ((rd_T82 l0_1 ((rd_T85 l1 x6_1).f0)).f0).size ≤ 9223372036854775807
         ·rw [if_pos c10] at H
          have c10b0:=eq_true c10
          have c10b1 : decide ((x5_1 ++ (⟨#[44,32]⟩ : ByteArray)).size + ((rd_T82 l0_1 ((rd_T85 l1 x6_1).f0)).f0).size ≤ 9223372036854775807) = true:=decide_eq_true c10
          try have c10b2 : (9223372036854775807 < (x5_1 ++ (⟨#[44,32]⟩ : ByteArray)).size + ((rd_T82 l0_1 ((rd_T85 l1 x6_1).f0)).f0).size) = False:=eq_false (Nat.not_lt.2 c10)
          have c10b3:=eq_false (Nat.not_lt.2 c10);(repeat rw [ByteArray.size_append] at c10b3);(try rw [show (⟨#[44,32]⟩ : ByteArray).size = 2 from rfl] at c10b3)
          obtain ⟨bq11,hbq11⟩ : ∃ b_ : Bool,b_ = ((rd_T85 l1 x6_1).f1):=⟨_,rfl⟩
          replace H : (if bq11 = true then (if ((x5_1 ++ (⟨#[44,32]⟩ : ByteArray)) ++ ((rd_T82 l0_1 ((rd_T85 l1 x6_1).f0)).f0)).size + 5 ≤ 9223372036854775807 then (spec_l9PartsText.l0 k1 l1 (((x5_1 ++ (⟨#[44,32]⟩ : ByteArray)) ++ ((rd_T82 l0_1 ((rd_T85 l1 x6_1).f0)).f0)) ++ (⟨#[32,100,101,115,99]⟩ : ByteArray)) (wrap64 (x6_1 + 1)) a0_0 l0_1 l0_2 l0_3) else (none)) else (spec_l9PartsText.l0 k1 l1 ((x5_1 ++ (⟨#[44,32]⟩ : ByteArray)) ++ ((rd_T82 l0_1 ((rd_T85 l1 x6_1).f0)).f0)) (wrap64 (x6_1 + 1)) a0_0 l0_1 l0_2 l0_3)) = some r:=by rw [← hbq11] at H;exact H
          have Nbq11:=aM_ hbq11
          clear hbq11
          by_cases c12 : bq11 = true
          ·subst c12
           have H1 : (if ((x5_1 ++ (⟨#[44,32]⟩ : ByteArray)) ++ ((rd_T82 l0_1 ((rd_T85 l1 x6_1).f0)).f0)).size + 5 ≤ 9223372036854775807 then (spec_l9PartsText.l0 k1 l1 (((x5_1 ++ (⟨#[44,32]⟩ : ByteArray)) ++ ((rd_T82 l0_1 ((rd_T85 l1 x6_1).f0)).f0)) ++ (⟨#[32,100,101,115,99]⟩ : ByteArray)) (wrap64 (x6_1 + 1)) a0_0 l0_1 l0_2 l0_3) else (none)) = some r:=by rw [if_pos rfl] at H;exact H
           clear H
           have H:=H1
           clear H1
           by_cases c13 : ((x5_1 ++ (⟨#[44,32]⟩ : ByteArray)) ++ ((rd_T82 l0_1 ((rd_T85 l1 x6_1).f0)).f0)).size + 5 ≤ 9223372036854775807
           ·rw [if_pos c13] at H
            have c13b0:=eq_true c13
            have c13b1 : decide (((x5_1 ++ (⟨#[44,32]⟩ : ByteArray)) ++ ((rd_T82 l0_1 ((rd_T85 l1 x6_1).f0)).f0)).size + 5 ≤ 9223372036854775807) = true:=decide_eq_true c13
            try have c13b2 : (9223372036854775807 < ((x5_1 ++ (⟨#[44,32]⟩ : ByteArray)) ++ ((rd_T82 l0_1 ((rd_T85 l1 x6_1).f0)).f0)).size + 5) = False:=eq_false (Nat.not_lt.2 c13)
            have c13b3:=eq_false (Nat.not_lt.2 c13);(repeat rw [ByteArray.size_append] at c13b3);(try rw [show (⟨#[44,32]⟩ : ByteArray).size = 2 from rfl] at c13b3)
            have H':=aM_ H
            clear H
            have hcz14_0 : wr.cell? ⟨gb251,0,none⟩ = some (.string a0_0):=(kC_ BK251.out 0).trans rfl
            have hcz14_1 : wr.cell? ⟨gb251,1,none⟩ = some (.slice A0_1 l0_1.length c0_1):=(kC_ BK251.out 1).trans rfl
            have hcz14_2 : wr.cell? ⟨gb251,2,none⟩ = some (.slice A0_2 l0_2.length c0_2):=(kC_ BK251.out 2).trans rfl
            have hcz14_3 : wr.cell? ⟨gb251,3,none⟩ = some (.slice A0_3 l0_3.length c0_3):=(kC_ BK251.out 3).trans rfl
            have hfz14_0:=kF_ BK251.out 0
            have hfz14_1:=kF_ BK251.out 1
            have hfz14_2:=kF_ BK251.out 2
            have hfz14_3:=kF_ BK251.out 3
            have p252 : 0 ≤ (x6_1 : Int):=oT_ (by first | (with_reducible assumption) | assumption)
            have q252 : x6_1 < (l1.length : Int):=oT_ (by first | (with_reducible assumption) | assumption)
            obtain ⟨ad252,e252,hx252_0,hx252_1⟩:=at_T85 HR1.out x6_1 p252 q252
            (try rw [← Nbq11.out] at hx252_1)
            cases e252
            replace hx252_0:=(HB.out.cell (wL_ w _ hx252_0)).trans hx252_0
            replace hx252_1:=(HB.out.cell (wL_ w _ hx252_1)).trans hx252_1
            replace p252:=eq_true p252
            replace q252:=eq_true q252
            have p253 : 0 ≤ (((rd_T85 l1 x6_1).f0) : Int):=oT_ (by first | (with_reducible assumption) | assumption)
            have q253 : ((rd_T85 l1 x6_1).f0) < (l0_1.length : Int):=oT_ (by first | (with_reducible assumption) | assumption)
            obtain ⟨ad253,e253,hx253_0,hx253_1,hx253_2⟩:=at_T82 HR0_1.out ((rd_T85 l1 x6_1).f0) p253 q253
            (try rw [← Nbq11.out] at hx253_2)
            cases e253
            replace hx253_0:=(HB.out.cell (wL_ w _ hx253_0)).trans hx253_0
            replace hx253_1:=(HB.out.cell (wL_ w _ hx253_1)).trans hx253_1
            replace hx253_2:=(HB.out.cell (wL_ w _ hx253_2)).trans hx253_2
            replace p253:=eq_true p253
            replace q253:=eq_true q253
            have p254 : 0 ≤ (x6_1 : Int):=oT_ (by first | (with_reducible assumption) | assumption)
            have q254 : x6_1 < (l1.length : Int):=oT_ (by first | (with_reducible assumption) | assumption)
            obtain ⟨ad254,e254,hx254_0,hx254_1⟩:=at_T85 HR1.out x6_1 p254 q254
            (try rw [← Nbq11.out] at hx254_1)
            obtain rfl : ad252 = ad254:=(by injection e254)
            replace hx254_0:=(HB.out.cell (wL_ w _ hx254_0)).trans hx254_0
            replace hx254_1:=(HB.out.cell (wL_ w _ hx254_1)).trans hx254_1
            replace p254:=eq_true p254
            replace q254:=eq_true q254
            go_wp2
            repeat (go_quiet (fail);try go_wp2)
            go_roundg k1
            case measure=>have:=HK1.out;omega
            case rel=>exact ⟨(((x5_1 ++ (⟨#[44,32]⟩ : ByteArray)) ++ ((rd_T82 l0_1 ((rd_T85 l1 x6_1).f0)).f0)) ++ (⟨#[32,100,101,115,99]⟩ : ByteArray)),(wrap64 (x6_1 + 1)),(by first | rfl | (simp;done) | (simp [*];done)),(by first | rfl | (simp;done) | (simp [*];done)),H', ⟨by have:=HK1.out;omega⟩,⟨by exact kZ_ BK251⟩,⟨by exact bZ_ HB⟩⟩
           ·rw [if_neg c13] at H
            exact absurd H (by simp)
          ·replace c12:=Bool.eq_false_iff.mpr c12
           subst c12
           have H1 : (spec_l9PartsText.l0 k1 l1 ((x5_1 ++ (⟨#[44,32]⟩ : ByteArray)) ++ ((rd_T82 l0_1 ((rd_T85 l1 x6_1).f0)).f0)) (wrap64 (x6_1 + 1)) a0_0 l0_1 l0_2 l0_3) = some r:=by rw [if_neg (show ¬ (false = true) by decide)] at H;exact H
           clear H
           have H:=H1
           clear H1
           have H':=aM_ H
           clear H
           have hcz15_0 : wr.cell? ⟨gb251,0,none⟩ = some (.string a0_0):=(kC_ BK251.out 0).trans rfl
           have hcz15_1 : wr.cell? ⟨gb251,1,none⟩ = some (.slice A0_1 l0_1.length c0_1):=(kC_ BK251.out 1).trans rfl
           have hcz15_2 : wr.cell? ⟨gb251,2,none⟩ = some (.slice A0_2 l0_2.length c0_2):=(kC_ BK251.out 2).trans rfl
           have hcz15_3 : wr.cell? ⟨gb251,3,none⟩ = some (.slice A0_3 l0_3.length c0_3):=(kC_ BK251.out 3).trans rfl
           have hfz15_0:=kF_ BK251.out 0
           have hfz15_1:=kF_ BK251.out 1
           have hfz15_2:=kF_ BK251.out 2
           have hfz15_3:=kF_ BK251.out 3
           have p252 : 0 ≤ (x6_1 : Int):=oT_ (by first | (with_reducible assumption) | assumption)
           have q252 : x6_1 < (l1.length : Int):=oT_ (by first | (with_reducible assumption) | assumption)
           obtain ⟨ad252,e252,hx252_0,hx252_1⟩:=at_T85 HR1.out x6_1 p252 q252
           (try rw [← Nbq11.out] at hx252_1)
           cases e252
           replace hx252_0:=(HB.out.cell (wL_ w _ hx252_0)).trans hx252_0
           replace hx252_1:=(HB.out.cell (wL_ w _ hx252_1)).trans hx252_1
           replace p252:=eq_true p252
           replace q252:=eq_true q252
           have p253 : 0 ≤ (((rd_T85 l1 x6_1).f0) : Int):=oT_ (by first | (with_reducible assumption) | assumption)
           have q253 : ((rd_T85 l1 x6_1).f0) < (l0_1.length : Int):=oT_ (by first | (with_reducible assumption) | assumption)
           obtain ⟨ad253,e253,hx253_0,hx253_1,hx253_2⟩:=at_T82 HR0_1.out ((rd_T85 l1 x6_1).f0) p253 q253
           (try rw [← Nbq11.out] at hx253_2)
           cases e253
           replace hx253_0:=(HB.out.cell (wL_ w _ hx253_0)).trans hx253_0
           replace hx253_1:=(HB.out.cell (wL_ w _ hx253_1)).trans hx253_1
           replace hx253_2:=(HB.out.cell (wL_ w _ hx253_2)).trans hx253_2
           replace p253:=eq_true p253
           replace q253:=eq_true q253
           have p254 : 0 ≤ (x6_1 : Int):=oT_ (by first | (with_reducible assumption) | assumption)
           have q254 : x6_1 < (l1.length : Int):=oT_ (by first | (with_reducible assumption) | assumption)
           obtain ⟨ad254,e254,hx254_0,hx254_1⟩:=at_T85 HR1.out x6_1 p254 q254
           (try rw [← Nbq11.out] at hx254_1)
           obtain rfl : ad252 = ad254:=(by injection e254)
           replace hx254_0:=(HB.out.cell (wL_ w _ hx254_0)).trans hx254_0
           replace hx254_1:=(HB.out.cell (wL_ w _ hx254_1)).trans hx254_1
           replace p254:=eq_true p254
           replace q254:=eq_true q254
           go_wp2
           repeat (go_quiet (fail);try go_wp2)
           go_roundg k1
           case measure=>have:=HK1.out;omega
           case rel=>exact ⟨((x5_1 ++ (⟨#[44,32]⟩ : ByteArray)) ++ ((rd_T82 l0_1 ((rd_T85 l1 x6_1).f0)).f0)),(wrap64 (x6_1 + 1)),(by first | rfl | (simp;done) | (simp [*];done)),(by first | rfl | (simp;done) | (simp [*];done)),H', ⟨by have:=HK1.out;omega⟩,⟨by exact kZ_ BK251⟩,⟨by exact bZ_ HB⟩⟩
         ·rw [if_neg c10] at H
          exact absurd H (by simp)
        ·rw [if_neg c9] at H
         exact absurd H (by simp)
       ·rw [if_neg c8] at H
        exact absurd H (by simp)
      ·rw [if_neg c7] at H
       exact absurd H (by simp)
     ·rw [if_neg c6] at H
      exact absurd H (by simp)
    ·rw [if_neg c5] at H
     have c5b0 : decide (0 < x6_1) = false:=decide_eq_false c5
     clear c5
     by_cases c16 : 0 ≤ x6_1
     ·rw [if_pos c16] at H
      have c16b0 : decide (0 ≤ x6_1) = true:=decide_eq_true c16
      clear c16
      by_cases c17 : 0 ≤ ((rd_T85 l1 x6_1).f0)
      ·rw [if_pos c17] at H
       have c17b0 : decide (0 ≤ ((rd_T85 l1 x6_1).f0)) = true:=decide_eq_true c17
       clear c17
       by_cases c18 : ((rd_T85 l1 x6_1).f0) < (l0_1.length : Int)
       ·rw [if_pos c18] at H
        have c18b0 : decide (((rd_T85 l1 x6_1).f0) < (l0_1.length : Int)) = true:=decide_eq_true c18
        clear c18
        by_cases c19 : x5_1.size + ((rd_T82 l0_1 ((rd_T85 l1 x6_1).f0)).f0).size ≤ 9223372036854775807
        ·rw [if_pos c19] at H
         have c19b0:=eq_true c19
         have c19b1 : decide (x5_1.size + ((rd_T82 l0_1 ((rd_T85 l1 x6_1).f0)).f0).size ≤ 9223372036854775807) = true:=decide_eq_true c19
         try have c19b2 : (9223372036854775807 < x5_1.size + ((rd_T82 l0_1 ((rd_T85 l1 x6_1).f0)).f0).size) = False:=eq_false (Nat.not_lt.2 c19)
         obtain ⟨bq20,hbq20⟩ : ∃ b_ : Bool,b_ = ((rd_T85 l1 x6_1).f1):=⟨_,rfl⟩
         replace H : (if bq20 = true then (if (x5_1 ++ ((rd_T82 l0_1 ((rd_T85 l1 x6_1).f0)).f0)).size + 5 ≤ 9223372036854775807 then (spec_l9PartsText.l0 k1 l1 ((x5_1 ++ ((rd_T82 l0_1 ((rd_T85 l1 x6_1).f0)).f0)) ++ (⟨#[32,100,101,115,99]⟩ : ByteArray)) (wrap64 (x6_1 + 1)) a0_0 l0_1 l0_2 l0_3) else (none)) else (spec_l9PartsText.l0 k1 l1 (x5_1 ++ ((rd_T82 l0_1 ((rd_T85 l1 x6_1).f0)).f0)) (wrap64 (x6_1 + 1)) a0_0 l0_1 l0_2 l0_3)) = some r:=by rw [← hbq20] at H;exact H
         have Nbq20:=aM_ hbq20
         clear hbq20
         by_cases c21 : bq20 = true
         ·subst c21
          have H1 : (if (x5_1 ++ ((rd_T82 l0_1 ((rd_T85 l1 x6_1).f0)).f0)).size + 5 ≤ 9223372036854775807 then (spec_l9PartsText.l0 k1 l1 ((x5_1 ++ ((rd_T82 l0_1 ((rd_T85 l1 x6_1).f0)).f0)) ++ (⟨#[32,100,101,115,99]⟩ : ByteArray)) (wrap64 (x6_1 + 1)) a0_0 l0_1 l0_2 l0_3) else (none)) = some r:=by rw [if_pos rfl] at H;exact H
          clear H
          have H:=H1
          clear H1
          by_cases c22 : (x5_1 ++ ((rd_T82 l0_1 ((rd_T85 l1 x6_1).f0)).f0)).size + 5 ≤ 9223372036854775807
          ·rw [if_pos c22] at H
           have c22b0:=eq_true c22
           have c22b1 : decide ((x5_1 ++ ((rd_T82 l0_1 ((rd_T85 l1 x6_1).f0)).f0)).size + 5 ≤ 9223372036854775807) = true:=decide_eq_true c22
           try have c22b2 : (9223372036854775807 < (x5_1 ++ ((rd_T82 l0_1 ((rd_T85 l1 x6_1).f0)).f0)).size + 5) = False:=eq_false (Nat.not_lt.2 c22)
           have c22b3:=eq_false (Nat.not_lt.2 c22);(repeat rw [ByteArray.size_append] at c22b3)
           have H':=aM_ H
           clear H
           have hcz23_0 : wr.cell? ⟨gb251,0,none⟩ = some (.string a0_0):=(kC_ BK251.out 0).trans rfl
           have hcz23_1 : wr.cell? ⟨gb251,1,none⟩ = some (.slice A0_1 l0_1.length c0_1):=(kC_ BK251.out 1).trans rfl
           have hcz23_2 : wr.cell? ⟨gb251,2,none⟩ = some (.slice A0_2 l0_2.length c0_2):=(kC_ BK251.out 2).trans rfl
           have hcz23_3 : wr.cell? ⟨gb251,3,none⟩ = some (.slice A0_3 l0_3.length c0_3):=(kC_ BK251.out 3).trans rfl
           have hfz23_0:=kF_ BK251.out 0
           have hfz23_1:=kF_ BK251.out 1
           have hfz23_2:=kF_ BK251.out 2
           have hfz23_3:=kF_ BK251.out 3
           have p255 : 0 ≤ (x6_1 : Int):=oT_ (by first | (with_reducible assumption) | assumption)
           have q255 : x6_1 < (l1.length : Int):=oT_ (by first | (with_reducible assumption) | assumption)
           obtain ⟨ad255,e255,hx255_0,hx255_1⟩:=at_T85 HR1.out x6_1 p255 q255
           (try rw [← Nbq20.out] at hx255_1)
           cases e255
           replace hx255_0:=(HB.out.cell (wL_ w _ hx255_0)).trans hx255_0
           replace hx255_1:=(HB.out.cell (wL_ w _ hx255_1)).trans hx255_1
           replace p255:=eq_true p255
           replace q255:=eq_true q255
           have p256 : 0 ≤ (((rd_T85 l1 x6_1).f0) : Int):=oT_ (by first | (with_reducible assumption) | assumption)
           have q256 : ((rd_T85 l1 x6_1).f0) < (l0_1.length : Int):=oT_ (by first | (with_reducible assumption) | assumption)
           obtain ⟨ad256,e256,hx256_0,hx256_1,hx256_2⟩:=at_T82 HR0_1.out ((rd_T85 l1 x6_1).f0) p256 q256
           (try rw [← Nbq20.out] at hx256_2)
           cases e256
           replace hx256_0:=(HB.out.cell (wL_ w _ hx256_0)).trans hx256_0
           replace hx256_1:=(HB.out.cell (wL_ w _ hx256_1)).trans hx256_1
           replace hx256_2:=(HB.out.cell (wL_ w _ hx256_2)).trans hx256_2
           replace p256:=eq_true p256
           replace q256:=eq_true q256
           have p257 : 0 ≤ (x6_1 : Int):=oT_ (by first | (with_reducible assumption) | assumption)
           have q257 : x6_1 < (l1.length : Int):=oT_ (by first | (with_reducible assumption) | assumption)
           obtain ⟨ad257,e257,hx257_0,hx257_1⟩:=at_T85 HR1.out x6_1 p257 q257
           (try rw [← Nbq20.out] at hx257_1)
           obtain rfl : ad255 = ad257:=(by injection e257)
           replace hx257_0:=(HB.out.cell (wL_ w _ hx257_0)).trans hx257_0
           replace hx257_1:=(HB.out.cell (wL_ w _ hx257_1)).trans hx257_1
           replace p257:=eq_true p257
           replace q257:=eq_true q257
           go_wp2
           repeat (go_quiet (fail);try go_wp2)
           go_roundg k1
           case measure=>have:=HK1.out;omega
           case rel=>exact ⟨((x5_1 ++ ((rd_T82 l0_1 ((rd_T85 l1 x6_1).f0)).f0)) ++ (⟨#[32,100,101,115,99]⟩ : ByteArray)),(wrap64 (x6_1 + 1)),(by first | rfl | (simp;done) | (simp [*];done)),(by first | rfl | (simp;done) | (simp [*];done)),H', ⟨by have:=HK1.out;omega⟩,⟨by exact kZ_ BK251⟩,⟨by exact bZ_ HB⟩⟩
          ·rw [if_neg c22] at H
           exact absurd H (by simp)
         ·replace c21:=Bool.eq_false_iff.mpr c21
          subst c21
          have H1 : (spec_l9PartsText.l0 k1 l1 (x5_1 ++ ((rd_T82 l0_1 ((rd_T85 l1 x6_1).f0)).f0)) (wrap64 (x6_1 + 1)) a0_0 l0_1 l0_2 l0_3) = some r:=by rw [if_neg (show ¬ (false = true) by decide)] at H;exact H
          clear H
          have H:=H1
          clear H1
          have H':=aM_ H
          clear H
          have hcz24_0 : wr.cell? ⟨gb251,0,none⟩ = some (.string a0_0):=(kC_ BK251.out 0).trans rfl
          have hcz24_1 : wr.cell? ⟨gb251,1,none⟩ = some (.slice A0_1 l0_1.length c0_1):=(kC_ BK251.out 1).trans rfl
          have hcz24_2 : wr.cell? ⟨gb251,2,none⟩ = some (.slice A0_2 l0_2.length c0_2):=(kC_ BK251.out 2).trans rfl
          have hcz24_3 : wr.cell? ⟨gb251,3,none⟩ = some (.slice A0_3 l0_3.length c0_3):=(kC_ BK251.out 3).trans rfl
          have hfz24_0:=kF_ BK251.out 0
          have hfz24_1:=kF_ BK251.out 1
          have hfz24_2:=kF_ BK251.out 2
          have hfz24_3:=kF_ BK251.out 3
          have p255 : 0 ≤ (x6_1 : Int):=oT_ (by first | (with_reducible assumption) | assumption)
          have q255 : x6_1 < (l1.length : Int):=oT_ (by first | (with_reducible assumption) | assumption)
          obtain ⟨ad255,e255,hx255_0,hx255_1⟩:=at_T85 HR1.out x6_1 p255 q255
          (try rw [← Nbq20.out] at hx255_1)
          cases e255
          replace hx255_0:=(HB.out.cell (wL_ w _ hx255_0)).trans hx255_0
          replace hx255_1:=(HB.out.cell (wL_ w _ hx255_1)).trans hx255_1
          replace p255:=eq_true p255
          replace q255:=eq_true q255
          have p256 : 0 ≤ (((rd_T85 l1 x6_1).f0) : Int):=oT_ (by first | (with_reducible assumption) | assumption)
          have q256 : ((rd_T85 l1 x6_1).f0) < (l0_1.length : Int):=oT_ (by first | (with_reducible assumption) | assumption)
          obtain ⟨ad256,e256,hx256_0,hx256_1,hx256_2⟩:=at_T82 HR0_1.out ((rd_T85 l1 x6_1).f0) p256 q256
          (try rw [← Nbq20.out] at hx256_2)
          cases e256
          replace hx256_0:=(HB.out.cell (wL_ w _ hx256_0)).trans hx256_0
          replace hx256_1:=(HB.out.cell (wL_ w _ hx256_1)).trans hx256_1
          replace hx256_2:=(HB.out.cell (wL_ w _ hx256_2)).trans hx256_2
          replace p256:=eq_true p256
          replace q256:=eq_true q256
          have p257 : 0 ≤ (x6_1 : Int):=oT_ (by first | (with_reducible assumption) | assumption)
          have q257 : x6_1 < (l1.length : Int):=oT_ (by first | (with_reducible assumption) | assumption)
          obtain ⟨ad257,e257,hx257_0,hx257_1⟩:=at_T85 HR1.out x6_1 p257 q257
          (try rw [← Nbq20.out] at hx257_1)
          obtain rfl : ad255 = ad257:=(by injection e257)
          replace hx257_0:=(HB.out.cell (wL_ w _ hx257_0)).trans hx257_0
          replace hx257_1:=(HB.out.cell (wL_ w _ hx257_1)).trans hx257_1
          replace p257:=eq_true p257
          replace q257:=eq_true q257
          go_wp2
          repeat (go_quiet (fail);try go_wp2)
          go_roundg k1
          case measure=>have:=HK1.out;omega
          case rel=>exact ⟨(x5_1 ++ ((rd_T82 l0_1 ((rd_T85 l1 x6_1).f0)).f0)),(wrap64 (x6_1 + 1)),(by first | rfl | (simp;done) | (simp [*];done)),(by first | rfl | (simp;done) | (simp [*];done)),H', ⟨by have:=HK1.out;omega⟩,⟨by exact kZ_ BK251⟩,⟨by exact bZ_ HB⟩⟩
        ·rw [if_neg c19] at H
         exact absurd H (by simp)
       ·rw [if_neg c18] at H
        exact absurd H (by simp)
      ·rw [if_neg c17] at H
       exact absurd H (by simp)
     ·rw [if_neg c16] at H
      exact absurd H (by simp)
   ·rw [if_neg c4] at H
    have c4b0 : decide (x6_1 < (l1.length : Int)) = false:=decide_eq_false c4
    clear c4
    by_cases c25 : x5_1.size + 2 ≤ 9223372036854775807
    ·rw [if_pos c25] at H
     have c25b0:=eq_true c25
     have c25b1 : decide (x5_1.size + 2 ≤ 9223372036854775807) = true:=decide_eq_true c25
     try have c25b2 : (9223372036854775807 < x5_1.size + 2) = False:=eq_false (Nat.not_lt.2 c25)
     obtain rfl:=Option.some.inj H
     go_wp2
     repeat (go_quiet (fail);try go_wp2)
     go_ret
     exact ⟨by first | rfl | (simp [errW_none,errW_some] <;> rfl) | (simp [*, errW_none,errW_some] <;> rfl),by exact bZ_ HB⟩
    ·rw [if_neg c25] at H
     exact absurd H (by simp)
end Go.Proofs.YtipehkeabnfngaaDoor.PFnExactDefsText
