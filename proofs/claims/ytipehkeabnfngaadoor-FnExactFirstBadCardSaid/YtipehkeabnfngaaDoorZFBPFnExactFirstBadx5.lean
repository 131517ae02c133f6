import Derived.Test.YtipehkeabnfngaaDoorZFBPFnExactFirstBadx0
import Derived.Test.YtipehkeabnfngaaDoorZFBPFnExactFirstBadx2
import Derived.Test.YtipehkeabnfngaaDoorZFBPFnExactFirstBadx3
import Derived.Test.YtipehkeabnfngaaDoorZFBPFnExactFirstBadx4
namespace Go.Proofs.YtipehkeabnfngaaDoor.PFnExactFirstBad
open Go.RowKit Go.Proofs.YtipehkeabnfngaaDoorW.PrintWords Go.Proofs.YtipehkeabnfngaaDoorW.PrintLast Go.Proofs.YtipehkeabnfngaaDoorW.PrintMore Go.Proofs.YtipehkeabnfngaaDoor.Xtra
attribute [local go_sem] max2_int min2_int max_two min_two max_three min_three max_four min_four str_leq str_gtr str_geq setCell_drewN cell_set2 cell_set3   -- for this text's walks alone
set_option linter.unusedVariables false
set_option linter.unusedSimpArgs false
def spec_CheckDef.l0 : Nat → Int → ByteArray → List (S82) → List (S85) → List (S69) → Option (Int)
 | 0,_,_,_,_,_=>none
 | k + 1,x3,x153000,x153001,x153002,x153003=>if x3 < (x153002.length : Int) then (if 0 ≤ x3 then (if 0 ≤ ((rd_T85 x153002 x3).f0) then (if ((rd_T85 x153002 x3).f0) < (x153001.length : Int) then (if (rd_T82 x153001 ((rd_T85 x153002 x3).f0)).f2 = true then (some 4) else (spec_CheckDef.l0 k (wrap64 (x3 + 1)) x153000 x153001 x153002 x153003)) else (none)) else (none)) else (none)) else (some 0)
def spec_CheckDef.f (k : Nat) (a0_0 : ByteArray) (l0_1 : List (S82)) (l0_2 : List (S85)) (l0_3 : List (S69)) : Option (Int):=(spec_l9Names.f k a0_0 l0_1 l0_2 l0_3).bind fun t153=>(if t153 = true then ((spec_l9Types.f k a0_0 l0_1 l0_2 l0_3).bind fun t154=>(if t154 = true then ((spec_l9Once.f k a0_0 l0_1 l0_2 l0_3).bind fun t155=>(if t155 = true then (if (l0_3.length : Int) > 2 then (some 6) else ((spec_l9AllParts.f k a0_0 l0_1 l0_2 l0_3).bind fun t156=>(if t156 = true then (spec_CheckDef.l0 k 0 a0_0 l0_1 l0_2 l0_3) else (some 5)))) else (some 3))) else (some 2))) else (some 1))
theorem spec_CheckDef.mono_l : ∀ k,(∀ y0 y1 y2 y3 y4,LeO (spec_CheckDef.l0 k y0 y1 y2 y3 y4) (spec_CheckDef.l0 (k + 1) y0 y1 y2 y3 y4))
 | 0=>fun _ _ _ _ _ r h=>by simp [spec_CheckDef.l0] at h
 | k + 1=>by
  have ih0:=spec_CheckDef.mono_l k
  ·intro y0 y1 y2 y3 y4
   unfold spec_CheckDef.l0
   repeat' first
   | (with_reducible exact ih0 _ _ _ _ _)
   | (with_reducible exact spec_l9AllParts.mono _ _ _ _ _)
   | (with_reducible exact spec_l9Names.mono _ _ _ _ _)
   | (with_reducible exact spec_l9Once.mono _ _ _ _ _)
   | (with_reducible exact spec_l9Types.mono _ _ _ _ _)
   | (with_reducible exact LeO.refl _)
   | (with_reducible exact LeO.none _)
   | (with_reducible refine LeO.ite ?_ ?_)
   | (with_reducible refine LeO.bind ?_ (fun _=>?_))
   | exact ih0 _ _ _ _ _
   | exact spec_l9AllParts.mono _ _ _ _ _
   | exact spec_l9Names.mono _ _ _ _ _
   | exact spec_l9Once.mono _ _ _ _ _
   | exact spec_l9Types.mono _ _ _ _ _
   | exact LeO.none _
   | refine LeO.ite ?_ ?_
   | refine LeO.bind ?_ (fun _=>?_)
theorem spec_CheckDef.mono : ∀ a0 a1 a2 a3 k,LeO (spec_CheckDef.f k a0 a1 a2 a3) (spec_CheckDef.f (k + 1) a0 a1 a2 a3):=by
 intro a0 a1 a2 a3 k
 have ih0:=spec_CheckDef.mono_l k
 unfold spec_CheckDef.f
 repeat' first
   | (with_reducible exact ih0 _ _ _ _ _)
   | (with_reducible exact spec_l9AllParts.mono _ _ _ _ _)
   | (with_reducible exact spec_l9Names.mono _ _ _ _ _)
   | (with_reducible exact spec_l9Once.mono _ _ _ _ _)
   | (with_reducible exact spec_l9Types.mono _ _ _ _ _)
   | (with_reducible exact LeO.refl _)
   | (with_reducible exact LeO.none _)
   | (with_reducible refine LeO.ite ?_ ?_)
   | (with_reducible refine LeO.bind ?_ (fun _=>?_))
   | exact ih0 _ _ _ _ _
   | exact spec_l9AllParts.mono _ _ _ _ _
   | exact spec_l9Names.mono _ _ _ _ _
   | exact spec_l9Once.mono _ _ _ _ _
   | exact spec_l9Types.mono _ _ _ _ _
   | exact LeO.none _
   | refine LeO.ite ?_ ?_
   | refine LeO.bind ?_ (fun _=>?_)
set_option maxHeartbeats 8000000 in
set_option maxRecDepth 100000 in
theorem spec_CheckDef.calls (k : Nat) (a0_0 : ByteArray) (A0_1 : Option Addr) (c0_1 : Nat) (l0_1 : List (S82)) (A0_2 : Option Addr) (c0_2 : Nat) (l0_2 : List (S85)) (A0_3 : Option Addr) (c0_3 : Nat) (l0_3 : List (S69)) (r : Int) (w : World) (hr0_1 : Kd.C k82 w A0_1 l0_1.length l0_1) (hc0_1 : l0_1.length ≤ c0_1) (hr0_2 : Kd.C k85 w A0_2 l0_2.length l0_2) (hc0_2 : l0_2.length ≤ c0_2) (hr0_3 : Kd.C k69 w A0_3 l0_3.length l0_3) (hc0_3 : l0_3.length ≤ c0_3) (h : spec_CheckDef.f k a0_0 l0_1 l0_2 l0_3 = some r) :
  Calls Tryd.prog 23 #[.agg #[.string a0_0,.slice A0_1 l0_1.length c0_1,.slice A0_2 l0_2.length c0_2,.slice A0_3 l0_3.length c0_3]] w fun e w'=>e = .returned (.int .i64 r) ∧ Below w.heap.size w w':=by
 have hu35:=Tryd.underlying35
 have HR0_1:=aM_ hr0_1
 have HC0_1:=aM_ hc0_1
 clear hr0_1 hc0_1
 have HR0_2:=aM_ hr0_2
 have HC0_2:=aM_ hc0_2
 clear hr0_2 hc0_2
 have HR0_3:=aM_ hr0_3
 have HC0_3:=aM_ hc0_3
 clear hr0_3 hc0_3
 have HB:=aM_ (Below.refl w.heap.size w)
 have H : ((spec_l9Names.f k a0_0 l0_1 l0_2 l0_3).bind fun t153=>(if t153 = true then ((spec_l9Types.f k a0_0 l0_1 l0_2 l0_3).bind fun t154=>(if t154 = true then ((spec_l9Once.f k a0_0 l0_1 l0_2 l0_3).bind fun t155=>(if t155 = true then (if (l0_3.length : Int) > 2 then (some 6) else ((spec_l9AllParts.f k a0_0 l0_1 l0_2 l0_3).bind fun t156=>(if t156 = true then (spec_CheckDef.l0 k 0 a0_0 l0_1 l0_2 l0_3) else (some 5)))) else (some 3))) else (some 2))) else (some 1))) = some r:=h
 clear h
 replace H:=oB_ H
 obtain ⟨t153,A20,H⟩:=H
 replace H : (if t153 = true then ((spec_l9Types.f k a0_0 l0_1 l0_2 l0_3).bind fun t154=>(if t154 = true then ((spec_l9Once.f k a0_0 l0_1 l0_2 l0_3).bind fun t155=>(if t155 = true then (if (l0_3.length : Int) > 2 then (some 6) else ((spec_l9AllParts.f k a0_0 l0_1 l0_2 l0_3).bind fun t156=>(if t156 = true then (spec_CheckDef.l0 k 0 a0_0 l0_1 l0_2 l0_3) else (some 5)))) else (some 3))) else (some 2))) else (some 1)) = some r:=H
 have A2:=aM_ A20
 clear A20
 by_cases c3 : t153 = true
 ·subst c3
  have H1 : ((spec_l9Types.f k a0_0 l0_1 l0_2 l0_3).bind fun t154=>(if t154 = true then ((spec_l9Once.f k a0_0 l0_1 l0_2 l0_3).bind fun t155=>(if t155 = true then (if (l0_3.length : Int) > 2 then (some 6) else ((spec_l9AllParts.f k a0_0 l0_1 l0_2 l0_3).bind fun t156=>(if t156 = true then (spec_CheckDef.l0 k 0 a0_0 l0_1 l0_2 l0_3) else (some 5)))) else (some 3))) else (some 2))) = some r:=by rw [if_pos rfl] at H;exact H
  clear H
  have H:=H1
  clear H1
  replace H:=oB_ H
  obtain ⟨t154,A40,H⟩:=H
  replace H : (if t154 = true then ((spec_l9Once.f k a0_0 l0_1 l0_2 l0_3).bind fun t155=>(if t155 = true then (if (l0_3.length : Int) > 2 then (some 6) else ((spec_l9AllParts.f k a0_0 l0_1 l0_2 l0_3).bind fun t156=>(if t156 = true then (spec_CheckDef.l0 k 0 a0_0 l0_1 l0_2 l0_3) else (some 5)))) else (some 3))) else (some 2)) = some r:=H
  have A4:=aM_ A40
  clear A40
  by_cases c5 : t154 = true
  ·subst c5
   have H1 : ((spec_l9Once.f k a0_0 l0_1 l0_2 l0_3).bind fun t155=>(if t155 = true then (if (l0_3.length : Int) > 2 then (some 6) else ((spec_l9AllParts.f k a0_0 l0_1 l0_2 l0_3).bind fun t156=>(if t156 = true then (spec_CheckDef.l0 k 0 a0_0 l0_1 l0_2 l0_3) else (some 5)))) else (some 3))) = some r:=by rw [if_pos rfl] at H;exact H
   clear H
   have H:=H1
   clear H1
   replace H:=oB_ H
   obtain ⟨t155,A60,H⟩:=H
   replace H : (if t155 = true then (if (l0_3.length : Int) > 2 then (some 6) else ((spec_l9AllParts.f k a0_0 l0_1 l0_2 l0_3).bind fun t156=>(if t156 = true then (spec_CheckDef.l0 k 0 a0_0 l0_1 l0_2 l0_3) else (some 5)))) else (some 3)) = some r:=H
   have A6:=aM_ A60
   clear A60
   by_cases c7 : t155 = true
   ·subst c7
    have H1 : (if (l0_3.length : Int) > 2 then (some 6) else ((spec_l9AllParts.f k a0_0 l0_1 l0_2 l0_3).bind fun t156=>(if t156 = true then (spec_CheckDef.l0 k 0 a0_0 l0_1 l0_2 l0_3) else (some 5)))) = some r:=by rw [if_pos rfl] at H;exact H
    clear H
    have H:=H1
    clear H1
    by_cases c8 : (l0_3.length : Int) > 2
    ·rw [if_pos c8] at H
     have c8b0 : decide (2 < (l0_3.length : Int)) = true:=decide_eq_true c8
     have c8b1 : decide (2 < l0_3.length) = true:=decide_eq_true (by omega)
     clear c8
     obtain rfl:=Option.some.inj H
     go_enter Tryd.func23,Tryd.ntmps23
     go_wp2_with (first | ((with_reducible refine gate_dst (N:=1) rfl ?_);refine box_event ?hg (N:=1) ?hd (cs:=#[.string a0_0,.slice A0_1 l0_1.length c0_1,.slice A0_2 l0_2.length c0_2,.slice A0_3 l0_3.length c0_3]) (t:=35) ?hr ?_;(case hd=>rfl);(case hg=>rfl);(case hr=>first | (go_simp;done) | (go_simp;rfl));intro gb152 hg w9 hbox hb;have n0_:=aM_ (bT_ (by exact bZ_ HB) hb);have n1_:=aM_ (hbox);have n2_:=aM_ ((by rw [hg];exact (bS_ (by exact bZ_ HB)) : w.heap.size ≤ gb152));have n3_:=aM_ ((by rw [hg];exact (bS_ (by exact bZ_ HB)) : w.heap.size ≤ gb152));clear HB;have HB:=n0_;have BK152:=n1_;have GW152:=n2_;have GE152:=n3_;clear n0_ n1_ n2_ n3_;clear hb hbox hg;have hcz10_0 : w9.cell? ⟨gb152,0,none⟩ = some (.string a0_0):=(kC_ BK152.out 0).trans rfl;have hcz10_1 : w9.cell? ⟨gb152,1,none⟩ = some (.slice A0_1 l0_1.length c0_1):=(kC_ BK152.out 1).trans rfl;have hcz10_2 : w9.cell? ⟨gb152,2,none⟩ = some (.slice A0_2 l0_2.length c0_2):=(kC_ BK152.out 2).trans rfl;have hcz10_3 : w9.cell? ⟨gb152,3,none⟩ = some (.slice A0_3 l0_3.length c0_3):=(kC_ BK152.out 3).trans rfl;have hfz10_0:=kF_ BK152.out 0;have hfz10_1:=kF_ BK152.out 1;have hfz10_2:=kF_ BK152.out 2;have hfz10_3:=kF_ BK152.out 3) | (go_at_call 60;(with_reducible refine (spec_l9Names.calls k a0_0 _ _ l0_1 _ _ l0_2 _ _ l0_3 true _ ?side1 ?side2 ?side3 ?side4 ?side5 ?side6 A2.out).mono ?_);(case side1=>repeat (first | exact (Kd.C_below HR0_1.out HB.out) | (with_reducible refine cA_ ?_ _) | (with_reducible refine cN_ ?_ _) | (with_reducible refine cD_ ?_)));(case side2=>exact HC0_1.out);(case side3=>repeat (first | exact (Kd.C_below HR0_2.out HB.out) | (with_reducible refine cA_ ?_ _) | (with_reducible refine cN_ ?_ _) | (with_reducible refine cD_ ?_)));(case side4=>exact HC0_2.out);(case side5=>repeat (first | exact (Kd.C_below HR0_3.out HB.out) | (with_reducible refine cA_ ?_ _) | (with_reducible refine cN_ ?_ _) | (with_reducible refine cD_ ?_)));(case side6=>exact HC0_3.out);rintro e w11 ⟨rfl,hb⟩;have n0_:=aM_ (blk_below (g:=gb152) (o:=.cells #[.string a0_0,.slice A0_1 l0_1.length c0_1,.slice A0_2 l0_2.length c0_2,.slice A0_3 l0_3.length c0_3] 35 (0,0)) (by exact kZ_ BK152) hb);have n1_:=aM_ (bT_ (by exact bZ_ HB) hb);clear BK152;clear HB;have BK152:=n0_;have HB:=n1_;clear n0_ n1_;(try clear hb);(try clear hb2);(try clear hk);(try clear hi);have hcz12_0 : w11.cell? ⟨gb152,0,none⟩ = some (.string a0_0):=(kC_ BK152.out 0).trans rfl;have hcz12_1 : w11.cell? ⟨gb152,1,none⟩ = some (.slice A0_1 l0_1.length c0_1):=(kC_ BK152.out 1).trans rfl;have hcz12_2 : w11.cell? ⟨gb152,2,none⟩ = some (.slice A0_2 l0_2.length c0_2):=(kC_ BK152.out 2).trans rfl;have hcz12_3 : w11.cell? ⟨gb152,3,none⟩ = some (.slice A0_3 l0_3.length c0_3):=(kC_ BK152.out 3).trans rfl;have hfz12_0:=kF_ BK152.out 0;have hfz12_1:=kF_ BK152.out 1;have hfz12_2:=kF_ BK152.out 2;have hfz12_3:=kF_ BK152.out 3) | (go_at_call 61;(with_reducible refine (spec_l9Types.calls k a0_0 _ _ l0_1 _ _ l0_2 _ _ l0_3 true _ ?side1 ?side2 ?side3 ?side4 ?side5 ?side6 A4.out).mono ?_);(case side1=>repeat (first | exact (Kd.C_below HR0_1.out HB.out) | (with_reducible refine cA_ ?_ _) | (with_reducible refine cN_ ?_ _) | (with_reducible refine cD_ ?_)));(case side2=>exact HC0_1.out);(case side3=>repeat (first | exact (Kd.C_below HR0_2.out HB.out) | (with_reducible refine cA_ ?_ _) | (with_reducible refine cN_ ?_ _) | (with_reducible refine cD_ ?_)));(case side4=>exact HC0_2.out);(case side5=>repeat (first | exact (Kd.C_below HR0_3.out HB.out) | (with_reducible refine cA_ ?_ _) | (with_reducible refine cN_ ?_ _) | (with_reducible refine cD_ ?_)));(case side6=>exact HC0_3.out);rintro e w13 ⟨rfl,hb⟩;have n0_:=aM_ (blk_below (g:=gb152) (o:=.cells #[.string a0_0,.slice A0_1 l0_1.length c0_1,.slice A0_2 l0_2.length c0_2,.slice A0_3 l0_3.length c0_3] 35 (0,0)) (by exact kZ_ BK152) hb);have n1_:=aM_ (bT_ (by exact bZ_ HB) hb);clear BK152;clear HB;have BK152:=n0_;have HB:=n1_;clear n0_ n1_;(try clear hb);(try clear hb2);(try clear hk);(try clear hi);have hcz14_0 : w13.cell? ⟨gb152,0,none⟩ = some (.string a0_0):=(kC_ BK152.out 0).trans rfl;have hcz14_1 : w13.cell? ⟨gb152,1,none⟩ = some (.slice A0_1 l0_1.length c0_1):=(kC_ BK152.out 1).trans rfl;have hcz14_2 : w13.cell? ⟨gb152,2,none⟩ = some (.slice A0_2 l0_2.length c0_2):=(kC_ BK152.out 2).trans rfl;have hcz14_3 : w13.cell? ⟨gb152,3,none⟩ = some (.slice A0_3 l0_3.length c0_3):=(kC_ BK152.out 3).trans rfl;have hfz14_0:=kF_ BK152.out 0;have hfz14_1:=kF_ BK152.out 1;have hfz14_2:=kF_ BK152.out 2;have hfz14_3:=kF_ BK152.out 3) | (go_at_call 62;(with_reducible refine (spec_l9Once.calls k a0_0 _ _ l0_1 _ _ l0_2 _ _ l0_3 true _ ?side1 ?side2 ?side3 ?side4 ?side5 ?side6 A6.out).mono ?_);(case side1=>repeat (first | exact (Kd.C_below HR0_1.out HB.out) | (with_reducible refine cA_ ?_ _) | (with_reducible refine cN_ ?_ _) | (with_reducible refine cD_ ?_)));(case side2=>exact HC0_1.out);(case side3=>repeat (first | exact (Kd.C_below HR0_2.out HB.out) | (with_reducible refine cA_ ?_ _) | (with_reducible refine cN_ ?_ _) | (with_reducible refine cD_ ?_)));(case side4=>exact HC0_2.out);(case side5=>repeat (first | exact (Kd.C_below HR0_3.out HB.out) | (with_reducible refine cA_ ?_ _) | (with_reducible refine cN_ ?_ _) | (with_reducible refine cD_ ?_)));(case side6=>exact HC0_3.out);rintro e w15 ⟨rfl,hb⟩;have n0_:=aM_ (blk_below (g:=gb152) (o:=.cells #[.string a0_0,.slice A0_1 l0_1.length c0_1,.slice A0_2 l0_2.length c0_2,.slice A0_3 l0_3.length c0_3] 35 (0,0)) (by exact kZ_ BK152) hb);have n1_:=aM_ (bT_ (by exact bZ_ HB) hb);clear BK152;clear HB;have BK152:=n0_;have HB:=n1_;clear n0_ n1_;(try clear hb);(try clear hb2);(try clear hk);(try clear hi);have hcz16_0 : w15.cell? ⟨gb152,0,none⟩ = some (.string a0_0):=(kC_ BK152.out 0).trans rfl;have hcz16_1 : w15.cell? ⟨gb152,1,none⟩ = some (.slice A0_1 l0_1.length c0_1):=(kC_ BK152.out 1).trans rfl;have hcz16_2 : w15.cell? ⟨gb152,2,none⟩ = some (.slice A0_2 l0_2.length c0_2):=(kC_ BK152.out 2).trans rfl;have hcz16_3 : w15.cell? ⟨gb152,3,none⟩ = some (.slice A0_3 l0_3.length c0_3):=(kC_ BK152.out 3).trans rfl;have hfz16_0:=kF_ BK152.out 0;have hfz16_1:=kF_ BK152.out 1;have hfz16_2:=kF_ BK152.out 2;have hfz16_3:=kF_ BK152.out 3))
     repeat (go_quiet (first | ((with_reducible refine gate_dst (N:=1) rfl ?_);refine box_event ?hg (N:=1) ?hd (cs:=#[.string a0_0,.slice A0_1 l0_1.length c0_1,.slice A0_2 l0_2.length c0_2,.slice A0_3 l0_3.length c0_3]) (t:=35) ?hr ?_;(case hd=>rfl);(case hg=>rfl);(case hr=>first | (go_simp;done) | (go_simp;rfl));intro gb152 hg w9 hbox hb;have n0_:=aM_ (bT_ (by exact bZ_ HB) hb);have n1_:=aM_ (hbox);have n2_:=aM_ ((by rw [hg];exact (bS_ (by exact bZ_ HB)) : w.heap.size ≤ gb152));have n3_:=aM_ ((by rw [hg];exact (bS_ (by exact bZ_ HB)) : w.heap.size ≤ gb152));clear HB;have HB:=n0_;have BK152:=n1_;have GW152:=n2_;have GE152:=n3_;clear n0_ n1_ n2_ n3_;clear hb hbox hg;have hcz10_0 : w9.cell? ⟨gb152,0,none⟩ = some (.string a0_0):=(kC_ BK152.out 0).trans rfl;have hcz10_1 : w9.cell? ⟨gb152,1,none⟩ = some (.slice A0_1 l0_1.length c0_1):=(kC_ BK152.out 1).trans rfl;have hcz10_2 : w9.cell? ⟨gb152,2,none⟩ = some (.slice A0_2 l0_2.length c0_2):=(kC_ BK152.out 2).trans rfl;have hcz10_3 : w9.cell? ⟨gb152,3,none⟩ = some (.slice A0_3 l0_3.length c0_3):=(kC_ BK152.out 3).trans rfl;have hfz10_0:=kF_ BK152.out 0;have hfz10_1:=kF_ BK152.out 1;have hfz10_2:=kF_ BK152.out 2;have hfz10_3:=kF_ BK152.out 3) | (go_at_call 60;(with_reducible refine (spec_l9Names.calls k a0_0 _ _ l0_1 _ _ l0_2 _ _ l0_3 true _ ?side1 ?side2 ?side3 ?side4 ?side5 ?side6 A2.out).mono ?_);(case side1=>repeat (first | exact (Kd.C_below HR0_1.out HB.out) | (with_reducible refine cA_ ?_ _) | (with_reducible refine cN_ ?_ _) | (with_reducible refine cD_ ?_)));(case side2=>exact HC0_1.out);(case side3=>repeat (first | exact (Kd.C_below HR0_2.out HB.out) | (with_reducible refine cA_ ?_ _) | (with_reducible refine cN_ ?_ _) | (with_reducible refine cD_ ?_)));(case side4=>exact HC0_2.out);(case side5=>repeat (first | exact (Kd.C_below HR0_3.out HB.out) | (with_reducible refine cA_ ?_ _) | (with_reducible refine cN_ ?_ _) | (with_reducible refine cD_ ?_)));(case side6=>exact HC0_3.out);rintro e w11 ⟨rfl,hb⟩;have n0_:=aM_ (blk_below (g:=gb152) (o:=.cells #[.string a0_0,.slice A0_1 l0_1.length c0_1,.slice A0_2 l0_2.length c0_2,.slice A0_3 l0_3.length c0_3] 35 (0,0)) (by exact kZ_ BK152) hb);have n1_:=aM_ (bT_ (by exact bZ_ HB) hb);clear BK152;clear HB;have BK152:=n0_;have HB:=n1_;clear n0_ n1_;(try clear hb);(try clear hb2);(try clear hk);(try clear hi);have hcz12_0 : w11.cell? ⟨gb152,0,none⟩ = some (.string a0_0):=(kC_ BK152.out 0).trans rfl;have hcz12_1 : w11.cell? ⟨gb152,1,none⟩ = some (.slice A0_1 l0_1.length c0_1):=(kC_ BK152.out 1).trans rfl;have hcz12_2 : w11.cell? ⟨gb152,2,none⟩ = some (.slice A0_2 l0_2.length c0_2):=(kC_ BK152.out 2).trans rfl;have hcz12_3 : w11.cell? ⟨gb152,3,none⟩ = some (.slice A0_3 l0_3.length c0_3):=(kC_ BK152.out 3).trans rfl;have hfz12_0:=kF_ BK152.out 0;have hfz12_1:=kF_ BK152.out 1;have hfz12_2:=kF_ BK152.out 2;have hfz12_3:=kF_ BK152.out 3) | (go_at_call 61;(with_reducible refine (spec_l9Types.calls k a0_0 _ _ l0_1 _ _ l0_2 _ _ l0_3 true _ ?side1 ?side2 ?side3 ?side4 ?side5 ?side6 A4.out).mono ?_);(case side1=>repeat (first | exact (Kd.C_below HR0_1.out HB.out) | (with_reducible refine cA_ ?_ _) | (with_reducible refine cN_ ?_ _) | (with_reducible refine cD_ ?_)));(case side2=>exact HC0_1.out);(case side3=>repeat (first | exact (Kd.C_below HR0_2.out HB.out) | (with_reducible refine cA_ ?_ _) | (with_reducible refine cN_ ?_ _) | (with_reducible refine cD_ ?_)));(case side4=>exact HC0_2.out);(case side5=>repeat (first | exact (Kd.C_below HR0_3.out HB.out) | (with_reducible refine cA_ ?_ _) | (with_reducible refine cN_ ?_ _) | (with_reducible refine cD_ ?_)));(case side6=>exact HC0_3.out);rintro e w13 ⟨rfl,hb⟩;have n0_:=aM_ (blk_below (g:=gb152) (o:=.cells #[.string a0_0,.slice A0_1 l0_1.length c0_1,.slice A0_2 l0_2.length c0_2,.slice A0_3 l0_3.length c0_3] 35 (0,0)) (by exact kZ_ BK152) hb);have n1_:=aM_ (bT_ (by exact bZ_ HB) hb);clear BK152;clear HB;have BK152:=n0_;have HB:=n1_;clear n0_ n1_;(try clear hb);(try clear hb2);(try clear hk);(try clear hi);have hcz14_0 : w13.cell? ⟨gb152,0,none⟩ = some (.string a0_0):=(kC_ BK152.out 0).trans rfl;have hcz14_1 : w13.cell? ⟨gb152,1,none⟩ = some (.slice A0_1 l0_1.length c0_1):=(kC_ BK152.out 1).trans rfl;have hcz14_2 : w13.cell? ⟨gb152,2,none⟩ = some (.slice A0_2 l0_2.length c0_2):=(kC_ BK152.out 2).trans rfl;have hcz14_3 : w13.cell? ⟨gb152,3,none⟩ = some (.slice A0_3 l0_3.length c0_3):=(kC_ BK152.out 3).trans rfl;have hfz14_0:=kF_ BK152.out 0;have hfz14_1:=kF_ BK152.out 1;have hfz14_2:=kF_ BK152.out 2;have hfz14_3:=kF_ BK152.out 3) | (go_at_call 62;(with_reducible refine (spec_l9Once.calls k a0_0 _ _ l0_1 _ _ l0_2 _ _ l0_3 true _ ?side1 ?side2 ?side3 ?side4 ?side5 ?side6 A6.out).mono ?_);(case side1=>repeat (first | exact (Kd.C_below HR0_1.out HB.out) | (with_reducible refine cA_ ?_ _) | (with_reducible refine cN_ ?_ _) | (with_reducible refine cD_ ?_)));(case side2=>exact HC0_1.out);(case side3=>repeat (first | exact (Kd.C_below HR0_2.out HB.out) | (with_reducible refine cA_ ?_ _) | (with_reducible refine cN_ ?_ _) | (with_reducible refine cD_ ?_)));(case side4=>exact HC0_2.out);(case side5=>repeat (first | exact (Kd.C_below HR0_3.out HB.out) | (with_reducible refine cA_ ?_ _) | (with_reducible refine cN_ ?_ _) | (with_reducible refine cD_ ?_)));(case side6=>exact HC0_3.out);rintro e w15 ⟨rfl,hb⟩;have n0_:=aM_ (blk_below (g:=gb152) (o:=.cells #[.string a0_0,.slice A0_1 l0_1.length c0_1,.slice A0_2 l0_2.length c0_2,.slice A0_3 l0_3.length c0_3] 35 (0,0)) (by exact kZ_ BK152) hb);have n1_:=aM_ (bT_ (by exact bZ_ HB) hb);clear BK152;clear HB;have BK152:=n0_;have HB:=n1_;clear n0_ n1_;(try clear hb);(try clear hb2);(try clear hk);(try clear hi);have hcz16_0 : w15.cell? ⟨gb152,0,none⟩ = some (.string a0_0):=(kC_ BK152.out 0).trans rfl;have hcz16_1 : w15.cell? ⟨gb152,1,none⟩ = some (.slice A0_1 l0_1.length c0_1):=(kC_ BK152.out 1).trans rfl;have hcz16_2 : w15.cell? ⟨gb152,2,none⟩ = some (.slice A0_2 l0_2.length c0_2):=(kC_ BK152.out 2).trans rfl;have hcz16_3 : w15.cell? ⟨gb152,3,none⟩ = some (.slice A0_3 l0_3.length c0_3):=(kC_ BK152.out 3).trans rfl;have hfz16_0:=kF_ BK152.out 0;have hfz16_1:=kF_ BK152.out 1;have hfz16_2:=kF_ BK152.out 2;have hfz16_3:=kF_ BK152.out 3));try go_wp2_with (first | ((with_reducible refine gate_dst (N:=1) rfl ?_);refine box_event ?hg (N:=1) ?hd (cs:=#[.string a0_0,.slice A0_1 l0_1.length c0_1,.slice A0_2 l0_2.length c0_2,.slice A0_3 l0_3.length c0_3]) (t:=35) ?hr ?_;(case hd=>rfl);(case hg=>rfl);(case hr=>first | (go_simp;done) | (go_simp;rfl));intro gb152 hg w9 hbox hb;have n0_:=aM_ (bT_ (by exact bZ_ HB) hb);have n1_:=aM_ (hbox);have n2_:=aM_ ((by rw [hg];exact (bS_ (by exact bZ_ HB)) : w.heap.size ≤ gb152));have n3_:=aM_ ((by rw [hg];exact (bS_ (by exact bZ_ HB)) : w.heap.size ≤ gb152));clear HB;have HB:=n0_;have BK152:=n1_;have GW152:=n2_;have GE152:=n3_;clear n0_ n1_ n2_ n3_;clear hb hbox hg;have hcz10_0 : w9.cell? ⟨gb152,0,none⟩ = some (.string a0_0):=(kC_ BK152.out 0).trans rfl;have hcz10_1 : w9.cell? ⟨gb152,1,none⟩ = some (.slice A0_1 l0_1.length c0_1):=(kC_ BK152.out 1).trans rfl;have hcz10_2 : w9.cell? ⟨gb152,2,none⟩ = some (.slice A0_2 l0_2.length c0_2):=(kC_ BK152.out 2).trans rfl;have hcz10_3 : w9.cell? ⟨gb152,3,none⟩ = some (.slice A0_3 l0_3.length c0_3):=(kC_ BK152.out 3).trans rfl;have hfz10_0:=kF_ BK152.out 0;have hfz10_1:=kF_ BK152.out 1;have hfz10_2:=kF_ BK152.out 2;have hfz10_3:=kF_ BK152.out 3) | (go_at_call 60;(with_reducible refine (spec_l9Names.calls k a0_0 _ _ l0_1 _ _ l0_2 _ _ l0_3 true _ ?side1 ?side2 ?side3 ?side4 ?side5 ?side6 A2.out).mono ?_);(case side1=>repeat (first | exact (Kd.C_below HR0_1.out HB.out) | (with_reducible refine cA_ ?_ _) | (with_reducible refine cN_ ?_ _) | (with_reducible refine cD_ ?_)));(case side2=>exact HC0_1.out);(case side3=>repeat (first | exact (Kd.C_below HR0_2.out HB.out) | (with_reducible refine cA_ ?_ _) | (with_reducible refine cN_ ?_ _) | (with_reducible refine cD_ ?_)));(case side4=>exact HC0_2.out);(case side5=>repeat (first | exact (Kd.C_below HR0_3.out HB.out) | (with_reducible refine cA_ ?_ _) | (with_reducible refine cN_ ?_ _) | (with_reducible refine cD_ ?_)));(case side6=>exact HC0_3.out);rintro e w11 ⟨rfl,hb⟩;have n0_:=aM_ (blk_below (g:=gb152) (o:=.cells #[.string a0_0,.slice A0_1 l0_1.length c0_1,.slice A0_2 l0_2.length c0_2,.slice A0_3 l0_3.length c0_3] 35 (0,0)) (by exact kZ_ BK152) hb);have n1_:=aM_ (bT_ (by exact bZ_ HB) hb);clear BK152;clear HB;have BK152:=n0_;have HB:=n1_;clear n0_ n1_;(try clear hb);(try clear hb2);(try clear hk);(try clear hi);have hcz12_0 : w11.cell? ⟨gb152,0,none⟩ = some (.string a0_0):=(kC_ BK152.out 0).trans rfl;have hcz12_1 : w11.cell? ⟨gb152,1,none⟩ = some (.slice A0_1 l0_1.length c0_1):=(kC_ BK152.out 1).trans rfl;have hcz12_2 : w11.cell? ⟨gb152,2,none⟩ = some (.slice A0_2 l0_2.length c0_2):=(kC_ BK152.out 2).trans rfl;have hcz12_3 : w11.cell? ⟨gb152,3,none⟩ = some (.slice A0_3 l0_3.length c0_3):=(kC_ BK152.out 3).trans rfl;have hfz12_0:=kF_ BK152.out 0;have hfz12_1:=kF_ BK152.out 1;have hfz12_2:=kF_ BK152.out 2;have hfz12_3:=kF_ BK152.out 3) | (go_at_call 61;(with_reducible refine (spec_l9Types.calls k a0_0 _ _ l0_1 _ _ l0_2 _ _ l0_3 true _ ?side1 ?side2 ?side3 ?side4 ?side5 ?side6 A4.out).mono ?_);(case side1=>repeat (first | exact (Kd.C_below HR0_1.out HB.out) | (with_reducible refine cA_ ?_ _) | (with_reducible refine cN_ ?_ _) | (with_reducible refine cD_ ?_)));(case side2=>exact HC0_1.out);(case side3=>repeat (first | exact (Kd.C_below HR0_2.out HB.out) | (with_reducible refine cA_ ?_ _) | (with_reducible refine cN_ ?_ _) | (with_reducible refine cD_ ?_)));(case side4=>exact HC0_2.out);(case side5=>repeat (first | exact (Kd.C_below HR0_3.out HB.out) | (with_reducible refine cA_ ?_ _) | (with_reducible refine cN_ ?_ _) | (with_reducible refine cD_ ?_)));(case side6=>exact HC0_3.out);rintro e w13 ⟨rfl,hb⟩;have n0_:=aM_ (blk_below (g:=gb152) (o:=.cells #[.string a0_0,.slice A0_1 l0_1.length c0_1,.slice A0_2 l0_2.length c0_2,.slice A0_3 l0_3.length c0_3] 35 (0,0)) (by exact kZ_ BK152) hb);have n1_:=aM_ (bT_ (by exact bZ_ HB) hb);clear BK152;clear HB;have BK152:=n0_;have HB:=n1_;clear n0_ n1_;(try clear hb);(try clear hb2);(try clear hk);(try clear hi);have hcz14_0 : w13.cell? ⟨gb152,0,none⟩ = some (.string a0_0):=(kC_ BK152.out 0).trans rfl;have hcz14_1 : w13.cell? ⟨gb152,1,none⟩ = some (.slice A0_1 l0_1.length c0_1):=(kC_ BK152.out 1).trans rfl;have hcz14_2 : w13.cell? ⟨gb152,2,none⟩ = some (.slice A0_2 l0_2.length c0_2):=(kC_ BK152.out 2).trans rfl;have hcz14_3 : w13.cell? ⟨gb152,3,none⟩ = some (.slice A0_3 l0_3.length c0_3):=(kC_ BK152.out 3).trans rfl;have hfz14_0:=kF_ BK152.out 0;have hfz14_1:=kF_ BK152.out 1;have hfz14_2:=kF_ BK152.out 2;have hfz14_3:=kF_ BK152.out 3) | (go_at_call 62;(with_reducible refine (spec_l9Once.calls k a0_0 _ _ l0_1 _ _ l0_2 _ _ l0_3 true _ ?side1 ?side2 ?side3 ?side4 ?side5 ?side6 A6.out).mono ?_);(case side1=>repeat (first | exact (Kd.C_below HR0_1.out HB.out) | (with_reducible refine cA_ ?_ _) | (with_reducible refine cN_ ?_ _) | (with_reducible refine cD_ ?_)));(case side2=>exact HC0_1.out);(case side3=>repeat (first | exact (Kd.C_below HR0_2.out HB.out) | (with_reducible refine cA_ ?_ _) | (with_reducible refine cN_ ?_ _) | (with_reducible refine cD_ ?_)));(case side4=>exact HC0_2.out);(case side5=>repeat (first | exact (Kd.C_below HR0_3.out HB.out) | (with_reducible refine cA_ ?_ _) | (with_reducible refine cN_ ?_ _) | (with_reducible refine cD_ ?_)));(case side6=>exact HC0_3.out);rintro e w15 ⟨rfl,hb⟩;have n0_:=aM_ (blk_below (g:=gb152) (o:=.cells #[.string a0_0,.slice A0_1 l0_1.length c0_1,.slice A0_2 l0_2.length c0_2,.slice A0_3 l0_3.length c0_3] 35 (0,0)) (by exact kZ_ BK152) hb);have n1_:=aM_ (bT_ (by exact bZ_ HB) hb);clear BK152;clear HB;have BK152:=n0_;have HB:=n1_;clear n0_ n1_;(try clear hb);(try clear hb2);(try clear hk);(try clear hi);have hcz16_0 : w15.cell? ⟨gb152,0,none⟩ = some (.string a0_0):=(kC_ BK152.out 0).trans rfl;have hcz16_1 : w15.cell? ⟨gb152,1,none⟩ = some (.slice A0_1 l0_1.length c0_1):=(kC_ BK152.out 1).trans rfl;have hcz16_2 : w15.cell? ⟨gb152,2,none⟩ = some (.slice A0_2 l0_2.length c0_2):=(kC_ BK152.out 2).trans rfl;have hcz16_3 : w15.cell? ⟨gb152,3,none⟩ = some (.slice A0_3 l0_3.length c0_3):=(kC_ BK152.out 3).trans rfl;have hfz16_0:=kF_ BK152.out 0;have hfz16_1:=kF_ BK152.out 1;have hfz16_2:=kF_ BK152.out 2;have hfz16_3:=kF_ BK152.out 3)))
     go_ret
     exact ⟨by first | rfl | (simp [errW_none,errW_some] <;> rfl) | (simp [*, errW_none,errW_some] <;> rfl),by exact bZ_ HB⟩
    ·rw [if_neg c8] at H
     have c8b0 : decide (2 < (l0_3.length : Int)) = false:=decide_eq_false c8
     have c8b1 : decide (2 < l0_3.length) = false:=decide_eq_false (by omega)
     clear c8
     replace H:=oB_ H
     obtain ⟨t156,A170,H⟩:=H
     replace H : (if t156 = true then (spec_CheckDef.l0 k 0 a0_0 l0_1 l0_2 l0_3) else (some 5)) = some r:=H
     have A17:=aM_ A170
     clear A170
     by_cases c18 : t156 = true
     ·subst c18
      have H1 : (spec_CheckDef.l0 k 0 a0_0 l0_1 l0_2 l0_3) = some r:=by rw [if_pos rfl] at H;exact H
      clear H
      have H:=H1
      clear H1
      have H':=aM_ H
      clear H
      go_enter Tryd.func23,Tryd.ntmps23
      go_wp2_with (first | ((with_reducible refine gate_dst (N:=1) rfl ?_);refine box_event ?hg (N:=1) ?hd (cs:=#[.string a0_0,.slice A0_1 l0_1.length c0_1,.slice A0_2 l0_2.length c0_2,.slice A0_3 l0_3.length c0_3]) (t:=35) ?hr ?_;(case hd=>rfl);(case hg=>rfl);(case hr=>first | (go_simp;done) | (go_simp;rfl));intro gb152 hg w19 hbox hb;have n0_:=aM_ (bT_ (by exact bZ_ HB) hb);have n1_:=aM_ (hbox);have n2_:=aM_ ((by rw [hg];exact (bS_ (by exact bZ_ HB)) : w.heap.size ≤ gb152));have n3_:=aM_ ((by rw [hg];exact (bS_ (by exact bZ_ HB)) : w.heap.size ≤ gb152));clear HB;have HB:=n0_;have BK152:=n1_;have GW152:=n2_;have GE152:=n3_;clear n0_ n1_ n2_ n3_;clear hb hbox hg;have hcz20_0 : w19.cell? ⟨gb152,0,none⟩ = some (.string a0_0):=(kC_ BK152.out 0).trans rfl;have hcz20_1 : w19.cell? ⟨gb152,1,none⟩ = some (.slice A0_1 l0_1.length c0_1):=(kC_ BK152.out 1).trans rfl;have hcz20_2 : w19.cell? ⟨gb152,2,none⟩ = some (.slice A0_2 l0_2.length c0_2):=(kC_ BK152.out 2).trans rfl;have hcz20_3 : w19.cell? ⟨gb152,3,none⟩ = some (.slice A0_3 l0_3.length c0_3):=(kC_ BK152.out 3).trans rfl;have hfz20_0:=kF_ BK152.out 0;have hfz20_1:=kF_ BK152.out 1;have hfz20_2:=kF_ BK152.out 2;have hfz20_3:=kF_ BK152.out 3) | (go_at_call 60;(with_reducible refine (spec_l9Names.calls k a0_0 _ _ l0_1 _ _ l0_2 _ _ l0_3 true _ ?side1 ?side2 ?side3 ?side4 ?side5 ?side6 A2.out).mono ?_);(case side1=>repeat (first | exact (Kd.C_below HR0_1.out HB.out) | (with_reducible refine cA_ ?_ _) | (with_reducible refine cN_ ?_ _) | (with_reducible refine cD_ ?_)));(case side2=>exact HC0_1.out);(case side3=>repeat (first | exact (Kd.C_below HR0_2.out HB.out) | (with_reducible refine cA_ ?_ _) | (with_reducible refine cN_ ?_ _) | (with_reducible refine cD_ ?_)));(case side4=>exact HC0_2.out);(case side5=>repeat (first | exact (Kd.C_below HR0_3.out HB.out) | (with_reducible refine cA_ ?_ _) | (with_reducible refine cN_ ?_ _) | (with_reducible refine cD_ ?_)));(case side6=>exact HC0_3.out);rintro e w21 ⟨rfl,hb⟩;have n0_:=aM_ (blk_below (g:=gb152) (o:=.cells #[.string a0_0,.slice A0_1 l0_1.length c0_1,.slice A0_2 l0_2.length c0_2,.slice A0_3 l0_3.length c0_3] 35 (0,0)) (by exact kZ_ BK152) hb);have n1_:=aM_ (bT_ (by exact bZ_ HB) hb);clear BK152;clear HB;have BK152:=n0_;have HB:=n1_;clear n0_ n1_;(try clear hb);(try clear hb2);(try clear hk);(try clear hi);have hcz22_0 : w21.cell? ⟨gb152,0,none⟩ = some (.string a0_0):=(kC_ BK152.out 0).trans rfl;have hcz22_1 : w21.cell? ⟨gb152,1,none⟩ = some (.slice A0_1 l0_1.length c0_1):=(kC_ BK152.out 1).trans rfl;have hcz22_2 : w21.cell? ⟨gb152,2,none⟩ = some (.slice A0_2 l0_2.length c0_2):=(kC_ BK152.out 2).trans rfl;have hcz22_3 : w21.cell? ⟨gb152,3,none⟩ = some (.slice A0_3 l0_3.length c0_3):=(kC_ BK152.out 3).trans rfl;have hfz22_0:=kF_ BK152.out 0;have hfz22_1:=kF_ BK152.out 1;have hfz22_2:=kF_ BK152.out 2;have hfz22_3:=kF_ BK152.out 3) | (go_at_call 61;(with_reducible refine (spec_l9Types.calls k a0_0 _ _ l0_1 _ _ l0_2 _ _ l0_3 true _ ?side1 ?side2 ?side3 ?side4 ?side5 ?side6 A4.out).mono ?_);(case side1=>repeat (first | exact (Kd.C_below HR0_1.out HB.out) | (with_reducible refine cA_ ?_ _) | (with_reducible refine cN_ ?_ _) | (with_reducible refine cD_ ?_)));(case side2=>exact HC0_1.out);(case side3=>repeat (first | exact (Kd.C_below HR0_2.out HB.out) | (with_reducible refine cA_ ?_ _) | (with_reducible refine cN_ ?_ _) | (with_reducible refine cD_ ?_)));(case side4=>exact HC0_2.out);(case side5=>repeat (first | exact (Kd.C_below HR0_3.out HB.out) | (with_reducible refine cA_ ?_ _) | (with_reducible refine cN_ ?_ _) | (with_reducible refine cD_ ?_)));(case side6=>exact HC0_3.out);rintro e w23 ⟨rfl,hb⟩;have n0_:=aM_ (blk_below (g:=gb152) (o:=.cells #[.string a0_0,.slice A0_1 l0_1.length c0_1,.slice A0_2 l0_2.length c0_2,.slice A0_3 l0_3.length c0_3] 35 (0,0)) (by exact kZ_ BK152) hb);have n1_:=aM_ (bT_ (by exact bZ_ HB) hb);clear BK152;clear HB;have BK152:=n0_;have HB:=n1_;clear n0_ n1_;(try clear hb);(try clear hb2);(try clear hk);(try clear hi);have hcz24_0 : w23.cell? ⟨gb152,0,none⟩ = some (.string a0_0):=(kC_ BK152.out 0).trans rfl;have hcz24_1 : w23.cell? ⟨gb152,1,none⟩ = some (.slice A0_1 l0_1.length c0_1):=(kC_ BK152.out 1).trans rfl;have hcz24_2 : w23.cell? ⟨gb152,2,none⟩ = some (.slice A0_2 l0_2.length c0_2):=(kC_ BK152.out 2).trans rfl;have hcz24_3 : w23.cell? ⟨gb152,3,none⟩ = some (.slice A0_3 l0_3.length c0_3):=(kC_ BK152.out 3).trans rfl;have hfz24_0:=kF_ BK152.out 0;have hfz24_1:=kF_ BK152.out 1;have hfz24_2:=kF_ BK152.out 2;have hfz24_3:=kF_ BK152.out 3) | (go_at_call 62;(with_reducible refine (spec_l9Once.calls k a0_0 _ _ l0_1 _ _ l0_2 _ _ l0_3 true _ ?side1 ?side2 ?side3 ?side4 ?side5 ?side6 A6.out).mono ?_);(case side1=>repeat (first | exact (Kd.C_below HR0_1.out HB.out) | (with_reducible refine cA_ ?_ _) | (with_reducible refine cN_ ?_ _) | (with_reducible refine cD_ ?_)));(case side2=>exact HC0_1.out);(case side3=>repeat (first | exact (Kd.C_below HR0_2.out HB.out) | (with_reducible refine cA_ ?_ _) | (with_reducible refine cN_ ?_ _) | (with_reducible refine cD_ ?_)));(case side4=>exact HC0_2.out);(case side5=>repeat (first | exact (Kd.C_below HR0_3.out HB.out) | (with_reducible refine cA_ ?_ _) | (with_reducible refine cN_ ?_ _) | (with_reducible refine cD_ ?_)));(case side6=>exact HC0_3.out);rintro e w25 ⟨rfl,hb⟩;have n0_:=aM_ (blk_below (g:=gb152) (o:=.cells #[.string a0_0,.slice A0_1 l0_1.length c0_1,.slice A0_2 l0_2.length c0_2,.slice A0_3 l0_3.length c0_3] 35 (0,0)) (by exact kZ_ BK152) hb);have n1_:=aM_ (bT_ (by exact bZ_ HB) hb);clear BK152;clear HB;have BK152:=n0_;have HB:=n1_;clear n0_ n1_;(try clear hb);(try clear hb2);(try clear hk);(try clear hi);have hcz26_0 : w25.cell? ⟨gb152,0,none⟩ = some (.string a0_0):=(kC_ BK152.out 0).trans rfl;have hcz26_1 : w25.cell? ⟨gb152,1,none⟩ = some (.slice A0_1 l0_1.length c0_1):=(kC_ BK152.out 1).trans rfl;have hcz26_2 : w25.cell? ⟨gb152,2,none⟩ = some (.slice A0_2 l0_2.length c0_2):=(kC_ BK152.out 2).trans rfl;have hcz26_3 : w25.cell? ⟨gb152,3,none⟩ = some (.slice A0_3 l0_3.length c0_3):=(kC_ BK152.out 3).trans rfl;have hfz26_0:=kF_ BK152.out 0;have hfz26_1:=kF_ BK152.out 1;have hfz26_2:=kF_ BK152.out 2;have hfz26_3:=kF_ BK152.out 3) | (go_at_call 63;(with_reducible refine (spec_l9AllParts.calls k a0_0 _ _ l0_1 _ _ l0_2 _ _ l0_3 true _ ?side1 ?side2 ?side3 ?side4 ?side5 ?side6 A17.out).mono ?_);(case side1=>repeat (first | exact (Kd.C_below HR0_1.out HB.out) | (with_reducible refine cA_ ?_ _) | (with_reducible refine cN_ ?_ _) | (with_reducible refine cD_ ?_)));(case side2=>exact HC0_1.out);(case side3=>repeat (first | exact (Kd.C_below HR0_2.out HB.out) | (with_reducible refine cA_ ?_ _) | (with_reducible refine cN_ ?_ _) | (with_reducible refine cD_ ?_)));(case side4=>exact HC0_2.out);(case side5=>repeat (first | exact (Kd.C_below HR0_3.out HB.out) | (with_reducible refine cA_ ?_ _) | (with_reducible refine cN_ ?_ _) | (with_reducible refine cD_ ?_)));(case side6=>exact HC0_3.out);rintro e w27 ⟨rfl,hb⟩;have n0_:=aM_ (blk_below (g:=gb152) (o:=.cells #[.string a0_0,.slice A0_1 l0_1.length c0_1,.slice A0_2 l0_2.length c0_2,.slice A0_3 l0_3.length c0_3] 35 (0,0)) (by exact kZ_ BK152) hb);have n1_:=aM_ (bT_ (by exact bZ_ HB) hb);clear BK152;clear HB;have BK152:=n0_;have HB:=n1_;clear n0_ n1_;(try clear hb);(try clear hb2);(try clear hk);(try clear hi)))
      repeat (go_quiet (first | ((with_reducible refine gate_dst (N:=1) rfl ?_);refine box_event ?hg (N:=1) ?hd (cs:=#[.string a0_0,.slice A0_1 l0_1.length c0_1,.slice A0_2 l0_2.length c0_2,.slice A0_3 l0_3.length c0_3]) (t:=35) ?hr ?_;(case hd=>rfl);(case hg=>rfl);(case hr=>first | (go_simp;done) | (go_simp;rfl));intro gb152 hg w19 hbox hb;have n0_:=aM_ (bT_ (by exact bZ_ HB) hb);have n1_:=aM_ (hbox);have n2_:=aM_ ((by rw [hg];exact (bS_ (by exact bZ_ HB)) : w.heap.size ≤ gb152));have n3_:=aM_ ((by rw [hg];exact (bS_ (by exact bZ_ HB)) : w.heap.size ≤ gb152));clear HB;have HB:=n0_;have BK152:=n1_;have GW152:=n2_;have GE152:=n3_;clear n0_ n1_ n2_ n3_;clear hb hbox hg;have hcz20_0 : w19.cell? ⟨gb152,0,none⟩ = some (.string a0_0):=(kC_ BK152.out 0).trans rfl;have hcz20_1 : w19.cell? ⟨gb152,1,none⟩ = some (.slice A0_1 l0_1.length c0_1):=(kC_ BK152.out 1).trans rfl;have hcz20_2 : w19.cell? ⟨gb152,2,none⟩ = some (.slice A0_2 l0_2.length c0_2):=(kC_ BK152.out 2).trans rfl;have hcz20_3 : w19.cell? ⟨gb152,3,none⟩ = some (.slice A0_3 l0_3.length c0_3):=(kC_ BK152.out 3).trans rfl;have hfz20_0:=kF_ BK152.out 0;have hfz20_1:=kF_ BK152.out 1;have hfz20_2:=kF_ BK152.out 2;have hfz20_3:=kF_ BK152.out 3) | (go_at_call 60;(with_reducible refine (spec_l9Names.calls k a0_0 _ _ l0_1 _ _ l0_2 _ _ l0_3 true _ ?side1 ?side2 ?side3 ?side4 ?side5 ?side6 A2.out).mono ?_);(case side1=>repeat (first | exact (Kd.C_below HR0_1.out HB.out) | (with_reducible refine cA_ ?_ _) | (with_reducible refine cN_ ?_ _) | (with_reducible refine cD_ ?_)));(case side2=>exact HC0_1.out);(case side3=>repeat (first | exact (Kd.C_below HR0_2.out HB.out) | (with_reducible refine cA_ ?_ _) | (with_reducible refine cN_ ?_ _) | (with_reducible refine cD_ ?_)));(case side4=>exact HC0_2.out);(case side5=>repeat (first | exact (Kd.C_below HR0_3.out HB.out) | (with_reducible refine cA_ ?_ _) | (with_reducible refine cN_ ?_ _) | (with_reducible refine cD_ ?_)));(case side6=>exact HC0_3.out);rintro e w21 ⟨rfl,hb⟩;have n0_:=aM_ (blk_below (g:=gb152) (o:=.cells #[.string a0_0,.slice A0_1 l0_1.length c0_1,.slice A0_2 l0_2.length c0_2,.slice A0_3 l0_3.length c0_3] 35 (0,0)) (by exact kZ_ BK152) hb);have n1_:=aM_ (bT_ (by exact bZ_ HB) hb);clear BK152;clear HB;have BK152:=n0_;have HB:=n1_;clear n0_ n1_;(try clear hb);(try clear hb2);(try clear hk);(try clear hi);have hcz22_0 : w21.cell? ⟨gb152,0,none⟩ = some (.string a0_0):=(kC_ BK152.out 0).trans rfl;have hcz22_1 : w21.cell? ⟨gb152,1,none⟩ = some (.slice A0_1 l0_1.length c0_1):=(kC_ BK152.out 1).trans rfl;have hcz22_2 : w21.cell? ⟨gb152,2,none⟩ = some (.slice A0_2 l0_2.length c0_2):=(kC_ BK152.out 2).trans rfl;have hcz22_3 : w21.cell? ⟨gb152,3,none⟩ = some (.slice A0_3 l0_3.length c0_3):=(kC_ BK152.out 3).trans rfl;have hfz22_0:=kF_ BK152.out 0;have hfz22_1:=kF_ BK152.out 1;have hfz22_2:=kF_ BK152.out 2;have hfz22_3:=kF_ BK152.out 3) | (go_at_call 61;(with_reducible refine (spec_l9Types.calls k a0_0 _ _ l0_1 _ _ l0_2 _ _ l0_3 true _ ?side1 ?side2 ?side3 ?side4 ?side5 ?side6 A4.out).mono ?_);(case side1=>repeat (first | exact (Kd.C_below HR0_1.out HB.out) | (with_reducible refine cA_ ?_ _) | (with_reducible refine cN_ ?_ _) | (with_reducible refine cD_ ?_)));(case side2=>exact HC0_1.out);(case side3=>repeat (first | exact (Kd.C_below HR0_2.out HB.out) | (with_reducible refine cA_ ?_ _) | (with_reducible refine cN_ ?_ _) | (with_reducible refine cD_ ?_)));(case side4=>exact HC0_2.out);(case side5=>repeat (first | exact (Kd.C_below HR0_3.out HB.out) | (with_reducible refine cA_ ?_ _) | (with_reducible refine cN_ ?_ _) | (with_reducible refine cD_ ?_)));(case side6=>exact HC0_3.out);rintro e w23 ⟨rfl,hb⟩;have n0_:=aM_ (blk_below (g:=gb152) (o:=.cells #[.string a0_0,.slice A0_1 l0_1.length c0_1,.slice A0_2 l0_2.length c0_2,.slice A0_3 l0_3.length c0_3] 35 (0,0)) (by exact kZ_ BK152) hb);have n1_:=aM_ (bT_ (by exact bZ_ HB) hb);clear BK152;clear HB;have BK152:=n0_;have HB:=n1_;clear n0_ n1_;(try clear hb);(try clear hb2);(try clear hk);(try clear hi);have hcz24_0 : w23.cell? ⟨gb152,0,none⟩ = some (.string a0_0):=(kC_ BK152.out 0).trans rfl;have hcz24_1 : w23.cell? ⟨gb152,1,none⟩ = some (.slice A0_1 l0_1.length c0_1):=(kC_ BK152.out 1).trans rfl;have hcz24_2 : w23.cell? ⟨gb152,2,none⟩ = some (.slice A0_2 l0_2.length c0_2):=(kC_ BK152.out 2).trans rfl;have hcz24_3 : w23.cell? ⟨gb152,3,none⟩ = some (.slice A0_3 l0_3.length c0_3):=(kC_ BK152.out 3).trans rfl;have hfz24_0:=kF_ BK152.out 0;have hfz24_1:=kF_ BK152.out 1;have hfz24_2:=kF_ BK152.out 2;have hfz24_3:=kF_ BK152.out 3) | (go_at_call 62;(with_reducible refine (spec_l9Once.calls k a0_0 _ _ l0_1 _ _ l0_2 _ _ l0_3 true _ ?side1 ?side2 ?side3 ?side4 ?side5 ?side6 A6.out).mono ?_);(case side1=>repeat (first | exact (Kd.C_below HR0_1.out HB.out) | (with_reducible refine cA_ ?_ _) | (with_reducible refine cN_ ?_ _) | (with_reducible refine cD_ ?_)));(case side2=>exact HC0_1.out);(case side3=>repeat (first | exact (Kd.C_below HR0_2.out HB.out) | (with_reducible refine cA_ ?_ _) | (with_reducible refine cN_ ?_ _) | (with_reducible refine cD_ ?_)));(case side4=>exact HC0_2.out);(case side5=>repeat (first | exact (Kd.C_below HR0_3.out HB.out) | (with_reducible refine cA_ ?_ _) | (with_reducible refine cN_ ?_ _) | (with_reducible refine cD_ ?_)));(case side6=>exact HC0_3.out);rintro e w25 ⟨rfl,hb⟩;have n0_:=aM_ (blk_below (g:=gb152) (o:=.cells #[.string a0_0,.slice A0_1 l0_1.length c0_1,.slice A0_2 l0_2.length c0_2,.slice A0_3 l0_3.length c0_3] 35 (0,0)) (by exact kZ_ BK152) hb);have n1_:=aM_ (bT_ (by exact bZ_ HB) hb);clear BK152;clear HB;have BK152:=n0_;have HB:=n1_;clear n0_ n1_;(try clear hb);(try clear hb2);(try clear hk);(try clear hi);have hcz26_0 : w25.cell? ⟨gb152,0,none⟩ = some (.string a0_0):=(kC_ BK152.out 0).trans rfl;have hcz26_1 : w25.cell? ⟨gb152,1,none⟩ = some (.slice A0_1 l0_1.length c0_1):=(kC_ BK152.out 1).trans rfl;have hcz26_2 : w25.cell? ⟨gb152,2,none⟩ = some (.slice A0_2 l0_2.length c0_2):=(kC_ BK152.out 2).trans rfl;have hcz26_3 : w25.cell? ⟨gb152,3,none⟩ = some (.slice A0_3 l0_3.length c0_3):=(kC_ BK152.out 3).trans rfl;have hfz26_0:=kF_ BK152.out 0;have hfz26_1:=kF_ BK152.out 1;have hfz26_2:=kF_ BK152.out 2;have hfz26_3:=kF_ BK152.out 3) | (go_at_call 63;(with_reducible refine (spec_l9AllParts.calls k a0_0 _ _ l0_1 _ _ l0_2 _ _ l0_3 true _ ?side1 ?side2 ?side3 ?side4 ?side5 ?side6 A17.out).mono ?_);(case side1=>repeat (first | exact (Kd.C_below HR0_1.out HB.out) | (with_reducible refine cA_ ?_ _) | (with_reducible refine cN_ ?_ _) | (with_reducible refine cD_ ?_)));(case side2=>exact HC0_1.out);(case side3=>repeat (first | exact (Kd.C_below HR0_2.out HB.out) | (with_reducible refine cA_ ?_ _) | (with_reducible refine cN_ ?_ _) | (with_reducible refine cD_ ?_)));(case side4=>exact HC0_2.out);(case side5=>repeat (first | exact (Kd.C_below HR0_3.out HB.out) | (with_reducible refine cA_ ?_ _) | (with_reducible refine cN_ ?_ _) | (with_reducible refine cD_ ?_)));(case side6=>exact HC0_3.out);rintro e w27 ⟨rfl,hb⟩;have n0_:=aM_ (blk_below (g:=gb152) (o:=.cells #[.string a0_0,.slice A0_1 l0_1.length c0_1,.slice A0_2 l0_2.length c0_2,.slice A0_3 l0_3.length c0_3] 35 (0,0)) (by exact kZ_ BK152) hb);have n1_:=aM_ (bT_ (by exact bZ_ HB) hb);clear BK152;clear HB;have BK152:=n0_;have HB:=n1_;clear n0_ n1_;(try clear hb);(try clear hb2);(try clear hk);(try clear hi)));try go_wp2_with (first | ((with_reducible refine gate_dst (N:=1) rfl ?_);refine box_event ?hg (N:=1) ?hd (cs:=#[.string a0_0,.slice A0_1 l0_1.length c0_1,.slice A0_2 l0_2.length c0_2,.slice A0_3 l0_3.length c0_3]) (t:=35) ?hr ?_;(case hd=>rfl);(case hg=>rfl);(case hr=>first | (go_simp;done) | (go_simp;rfl));intro gb152 hg w19 hbox hb;have n0_:=aM_ (bT_ (by exact bZ_ HB) hb);have n1_:=aM_ (hbox);have n2_:=aM_ ((by rw [hg];exact (bS_ (by exact bZ_ HB)) : w.heap.size ≤ gb152));have n3_:=aM_ ((by rw [hg];exact (bS_ (by exact bZ_ HB)) : w.heap.size ≤ gb152));clear HB;have HB:=n0_;have BK152:=n1_;have GW152:=n2_;have GE152:=n3_;clear n0_ n1_ n2_ n3_;clear hb hbox hg;have hcz20_0 : w19.cell? ⟨gb152,0,none⟩ = some (.string a0_0):=(kC_ BK152.out 0).trans rfl;have hcz20_1 : w19.cell? ⟨gb152,1,none⟩ = some (.slice A0_1 l0_1.length c0_1):=(kC_ BK152.out 1).trans rfl;have hcz20_2 : w19.cell? ⟨gb152,2,none⟩ = some (.slice A0_2 l0_2.length c0_2):=(kC_ BK152.out 2).trans rfl;have hcz20_3 : w19.cell? ⟨gb152,3,none⟩ = some (.slice A0_3 l0_3.length c0_3):=(kC_ BK152.out 3).trans rfl;have hfz20_0:=kF_ BK152.out 0;have hfz20_1:=kF_ BK152.out 1;have hfz20_2:=kF_ BK152.out 2;have hfz20_3:=kF_ BK152.out 3) | (go_at_call 60;(with_reducible refine (spec_l9Names.calls k a0_0 _ _ l0_1 _ _ l0_2 _ _ l0_3 true _ ?side1 ?side2 ?side3 ?side4 ?side5 ?side6 A2.out).mono ?_);(case side1=>repeat (first | exact (Kd.C_below HR0_1.out HB.out) | (with_reducible refine cA_ ?_ _) | (with_reducible refine cN_ ?_ _) | (with_reducible refine cD_ ?_)));(case side2=>exact HC0_1.out);(case side3=>repeat (first | exact (Kd.C_below HR0_2.out HB.out) | (with_reducible refine cA_ ?_ _) | (with_reducible refine cN_ ?_ _) | (with_reducible refine cD_ ?_)));(case side4=>exact HC0_2.out);(case side5=>repeat (first | exact (Kd.C_below HR0_3.out HB.out) | (with_reducible refine cA_ ?_ _) | (with_reducible refine cN_ ?_ _) | (with_reducible refine cD_ ?_)));(case side6=>exact HC0_3.out);rintro e w21 ⟨rfl,hb⟩;have n0_:=aM_ (blk_below (g:=gb152) (o:=.cells #[.string a0_0,.slice A0_1 l0_1.length c0_1,.slice A0_2 l0_2.length c0_2,.slice A0_3 l0_3.length c0_3] 35 (0,0)) (by exact kZ_ BK152) hb);have n1_:=aM_ (bT_ (by exact bZ_ HB) hb);clear BK152;clear HB;have BK152:=n0_;have HB:=n1_;clear n0_ n1_;(try clear hb);(try clear hb2);(try clear hk);(try clear hi);have hcz22_0 : w21.cell? ⟨gb152,0,none⟩ = some (.string a0_0):=(kC_ BK152.out 0).trans rfl;have hcz22_1 : w21.cell? ⟨gb152,1,none⟩ = some (.slice A0_1 l0_1.length c0_1):=(kC_ BK152.out 1).trans rfl;have hcz22_2 : w21.cell? ⟨gb152,2,none⟩ = some (.slice A0_2 l0_2.length c0_2):=(kC_ BK152.out 2).trans rfl;have hcz22_3 : w21.cell? ⟨gb152,3,none⟩ = some (.slice A0_3 l0_3.length c0_3):=(kC_ BK152.out 3).trans rfl;have hfz22_0:=kF_ BK152.out 0;have hfz22_1:=kF_ BK152.out 1;have hfz22_2:=kF_ BK152.out 2;have hfz22_3:=kF_ BK152.out 3) | (go_at_call 61;(with_reducible refine (spec_l9Types.calls k a0_0 _ _ l0_1 _ _ l0_2 _ _ l0_3 true _ ?side1 ?side2 ?side3 ?side4 ?side5 ?side6 A4.out).mono ?_);(case side1=>repeat (first | exact (Kd.C_below HR0_1.out HB.out) | (with_reducible refine cA_ ?_ _) | (with_reducible refine cN_ ?_ _) | (with_reducible refine cD_ ?_)));(case side2=>exact HC0_1.out);(case side3=>repeat (first | exact (Kd.C_below HR0_2.out HB.out) | (with_reducible refine cA_ ?_ _) | (with_reducible refine cN_ ?_ _) | (with_reducible refine cD_ ?_)));(case side4=>exact HC0_2.out);(case side5=>repeat (first | exact (Kd.C_below HR0_3.out HB.out) | (with_reducible refine cA_ ?_ _) | (with_reducible refine cN_ ?_ _) | (with_reducible refine cD_ ?_)));(case side6=>exact HC0_3.out);rintro e w23 ⟨rfl,hb⟩;have n0_:=aM_ (blk_below (g:=gb152) (o:=.cells #[.string a0_0,.slice A0_1 l0_1.length c0_1,.slice A0_2 l0_2.length c0_2,.slice A0_3 l0_3.length c0_3] 35 (0,0)) (by exact kZ_ BK152) hb);have n1_:=aM_ (bT_ (by exact bZ_ HB) hb);clear BK152;clear HB;have BK152:=n0_;have HB:=n1_;clear n0_ n1_;(try clear hb);(try clear hb2);(try clear hk);(try clear hi);have hcz24_0 : w23.cell? ⟨gb152,0,none⟩ = some (.string a0_0):=(kC_ BK152.out 0).trans rfl;have hcz24_1 : w23.cell? ⟨gb152,1,none⟩ = some (.slice A0_1 l0_1.length c0_1):=(kC_ BK152.out 1).trans rfl;have hcz24_2 : w23.cell? ⟨gb152,2,none⟩ = some (.slice A0_2 l0_2.length c0_2):=(kC_ BK152.out 2).trans rfl;have hcz24_3 : w23.cell? ⟨gb152,3,none⟩ = some (.slice A0_3 l0_3.length c0_3):=(kC_ BK152.out 3).trans rfl;have hfz24_0:=kF_ BK152.out 0;have hfz24_1:=kF_ BK152.out 1;have hfz24_2:=kF_ BK152.out 2;have hfz24_3:=kF_ BK152.out 3) | (go_at_call 62;(with_reducible refine (spec_l9Once.calls k a0_0 _ _ l0_1 _ _ l0_2 _ _ l0_3 true _ ?side1 ?side2 ?side3 ?side4 ?side5 ?side6 A6.out).mono ?_);(case side1=>repeat (first | exact (Kd.C_below HR0_1.out HB.out) | (with_reducible refine cA_ ?_ _) | (with_reducible refine cN_ ?_ _) | (with_reducible refine cD_ ?_)));(case side2=>exact HC0_1.out);(case side3=>repeat (first | exact (Kd.C_below HR0_2.out HB.out) | (with_reducible refine cA_ ?_ _) | (with_reducible refine cN_ ?_ _) | (with_reducible refine cD_ ?_)));(case side4=>exact HC0_2.out);(case side5=>repeat (first | exact (Kd.C_below HR0_3.out HB.out) | (with_reducible refine cA_ ?_ _) | (with_reducible refine cN_ ?_ _) | (with_reducible refine cD_ ?_)));(case side6=>exact HC0_3.out);rintro e w25 ⟨rfl,hb⟩;have n0_:=aM_ (blk_below (g:=gb152) (o:=.cells #[.string a0_0,.slice A0_1 l0_1.length c0_1,.slice A0_2 l0_2.length c0_2,.slice A0_3 l0_3.length c0_3] 35 (0,0)) (by exact kZ_ BK152) hb);have n1_:=aM_ (bT_ (by exact bZ_ HB) hb);clear BK152;clear HB;have BK152:=n0_;have HB:=n1_;clear n0_ n1_;(try clear hb);(try clear hb2);(try clear hk);(try clear hi);have hcz26_0 : w25.cell? ⟨gb152,0,none⟩ = some (.string a0_0):=(kC_ BK152.out 0).trans rfl;have hcz26_1 : w25.cell? ⟨gb152,1,none⟩ = some (.slice A0_1 l0_1.length c0_1):=(kC_ BK152.out 1).trans rfl;have hcz26_2 : w25.cell? ⟨gb152,2,none⟩ = some (.slice A0_2 l0_2.length c0_2):=(kC_ BK152.out 2).trans rfl;have hcz26_3 : w25.cell? ⟨gb152,3,none⟩ = some (.slice A0_3 l0_3.length c0_3):=(kC_ BK152.out 3).trans rfl;have hfz26_0:=kF_ BK152.out 0;have hfz26_1:=kF_ BK152.out 1;have hfz26_2:=kF_ BK152.out 2;have hfz26_3:=kF_ BK152.out 3) | (go_at_call 63;(with_reducible refine (spec_l9AllParts.calls k a0_0 _ _ l0_1 _ _ l0_2 _ _ l0_3 true _ ?side1 ?side2 ?side3 ?side4 ?side5 ?side6 A17.out).mono ?_);(case side1=>repeat (first | exact (Kd.C_below HR0_1.out HB.out) | (with_reducible refine cA_ ?_ _) | (with_reducible refine cN_ ?_ _) | (with_reducible refine cD_ ?_)));(case side2=>exact HC0_1.out);(case side3=>repeat (first | exact (Kd.C_below HR0_2.out HB.out) | (with_reducible refine cA_ ?_ _) | (with_reducible refine cN_ ?_ _) | (with_reducible refine cD_ ?_)));(case side4=>exact HC0_2.out);(case side5=>repeat (first | exact (Kd.C_below HR0_3.out HB.out) | (with_reducible refine cA_ ?_ _) | (with_reducible refine cN_ ?_ _) | (with_reducible refine cD_ ?_)));(case side6=>exact HC0_3.out);rintro e w27 ⟨rfl,hb⟩;have n0_:=aM_ (blk_below (g:=gb152) (o:=.cells #[.string a0_0,.slice A0_1 l0_1.length c0_1,.slice A0_2 l0_2.length c0_2,.slice A0_3 l0_3.length c0_3] 35 (0,0)) (by exact kZ_ BK152) hb);have n1_:=aM_ (bT_ (by exact bZ_ HB) hb);clear BK152;clear HB;have BK152:=n0_;have HB:=n1_;clear n0_ n1_;(try clear hb);(try clear hb2);(try clear hk);(try clear hi))))
      (try simp only [Act.put,sI_,sS_,sZ_])
      go_loopg [3] k (fun kq v3 w'=>∃ (x3_1 : Int),v3 = .int .i64 x3_1 ∧ Aside0 (spec_CheckDef.l0 kq x3_1 a0_0 l0_1 l0_2 l0_3 = some r) ∧ Aside0 (kq ≤ k) ∧ Aside0 (w'.heap[gb152]? = some (.cells #[.string a0_0,(.slice A0_1 l0_1.length c0_1),(.slice A0_2 l0_2.length c0_2),(.slice A0_3 l0_3.length c0_3)] 35 (0,0))) ∧ Aside0 (Below w.heap.size w w'))
      case atStart=>exact ⟨(0),(by first | rfl | (simp;done) | (simp [*];done)),H', ⟨Nat.le_refl _⟩,⟨by exact kZ_ BK152⟩,⟨by exact bZ_ HB⟩⟩
      case round =>
       clear H'
       try clear c1
       try clear c2
       try clear p2
       try clear c3
       try clear c5
       try clear c7
       try clear c8
       try clear c8b0
       try clear c8b1
       try clear c18
       try clear c23
       try clear hcz10_0
       try clear hcz10_1
       try clear hcz10_2
       try clear hcz10_3
       try clear hcz12_0
       try clear hcz12_1
       try clear hcz12_2
       try clear hcz12_3
       try clear hcz14_0
       try clear hcz14_1
       try clear hcz14_2
       try clear hcz14_3
       try clear hcz16_0
       try clear hcz16_1
       try clear hcz16_2
       try clear hcz16_3
       try clear hcz20_0
       try clear hcz20_1
       try clear hcz20_2
       try clear hcz20_3
       try clear hcz22_0
       try clear hcz22_1
       try clear hcz22_2
       try clear hcz22_3
       try clear hcz24_0
       try clear hcz24_1
       try clear hcz24_2
       try clear hcz24_3
       try clear hcz26_0
       try clear hcz26_1
       try clear hcz26_2
       try clear hcz26_3
       try clear hfz10_0
       try clear hfz10_1
       try clear hfz10_2
       try clear hfz10_3
       try clear hfz12_0
       try clear hfz12_1
       try clear hfz12_2
       try clear hfz12_3
       try clear hfz14_0
       try clear hfz14_1
       try clear hfz14_2
       try clear hfz14_3
       try clear hfz16_0
       try clear hfz16_1
       try clear hfz16_2
       try clear hfz16_3
       try clear hfz20_0
       try clear hfz20_1
       try clear hfz20_2
       try clear hfz20_3
       try clear hfz22_0
       try clear hfz22_1
       try clear hfz22_2
       try clear hfz22_3
       try clear hfz24_0
       try clear hfz24_1
       try clear hfz24_2
       try clear hfz24_3
       try clear hfz26_0
       try clear hfz26_1
       try clear hfz26_2
       try clear hfz26_3
       obtain ⟨x3_1,rfl,HA,HK1,BK152,HB⟩:=hrel
       cases gk with
       | zero=>exact absurd HA.out (by simp [spec_CheckDef.l0])
       | succ k1 =>
        have H:=HA.out
        clear HA
        simp only [spec_CheckDef.l0] at H
        by_cases c28 : x3_1 < (l0_2.length : Int)
        ·rw [if_pos c28] at H
         have c28b0 : decide (x3_1 < (l0_2.length : Int)) = true:=decide_eq_true c28
         clear c28
         by_cases c29 : 0 ≤ x3_1
         ·rw [if_pos c29] at H
          have c29b0 : decide (0 ≤ x3_1) = true:=decide_eq_true c29
          clear c29
          by_cases c30 : 0 ≤ ((rd_T85 l0_2 x3_1).f0)
          ·rw [if_pos c30] at H
           have c30b0 : decide (0 ≤ ((rd_T85 l0_2 x3_1).f0)) = true:=decide_eq_true c30
           clear c30
           by_cases c31 : ((rd_T85 l0_2 x3_1).f0) < (l0_1.length : Int)
           ·rw [if_pos c31] at H
            have c31b0 : decide (((rd_T85 l0_2 x3_1).f0) < (l0_1.length : Int)) = true:=decide_eq_true c31
            clear c31
            obtain ⟨bq32,hbq32⟩ : ∃ b_ : Bool,b_ = ((rd_T82 l0_1 ((rd_T85 l0_2 x3_1).f0)).f2):=⟨_,rfl⟩
            replace H : (if bq32 = true then (some 4) else (spec_CheckDef.l0 k1 (wrap64 (x3_1 + 1)) a0_0 l0_1 l0_2 l0_3)) = some r:=by rw [← hbq32] at H;exact H
            have Nbq32:=aM_ hbq32
            clear hbq32
            by_cases c33 : bq32 = true
            ·subst c33
             have H1 : (some 4) = some r:=by rw [if_pos rfl] at H;exact H
             clear H
             have H:=H1
             clear H1
             obtain rfl:=Option.some.inj H
             have hcz34_0 : wr.cell? ⟨gb152,0,none⟩ = some (.string a0_0):=(kC_ BK152.out 0).trans rfl
             have hcz34_1 : wr.cell? ⟨gb152,1,none⟩ = some (.slice A0_1 l0_1.length c0_1):=(kC_ BK152.out 1).trans rfl
             have hcz34_2 : wr.cell? ⟨gb152,2,none⟩ = some (.slice A0_2 l0_2.length c0_2):=(kC_ BK152.out 2).trans rfl
             have hcz34_3 : wr.cell? ⟨gb152,3,none⟩ = some (.slice A0_3 l0_3.length c0_3):=(kC_ BK152.out 3).trans rfl
             have hfz34_0:=kF_ BK152.out 0
             have hfz34_1:=kF_ BK152.out 1
             have hfz34_2:=kF_ BK152.out 2
             have hfz34_3:=kF_ BK152.out 3
             have p157 : 0 ≤ (x3_1 : Int):=oT_ (by first | (with_reducible assumption) | assumption)
             have q157 : x3_1 < (l0_2.length : Int):=oT_ (by first | (with_reducible assumption) | assumption)
             obtain ⟨ad157,e157,hx157_0,hx157_1⟩:=at_T85 HR0_2.out x3_1 p157 q157
             (try rw [← Nbq32.out] at hx157_1)
             cases e157
             replace hx157_0:=(HB.out.cell (wL_ w _ hx157_0)).trans hx157_0
             replace hx157_1:=(HB.out.cell (wL_ w _ hx157_1)).trans hx157_1
             replace p157:=eq_true p157
             replace q157:=eq_true q157
             have p158 : 0 ≤ (((rd_T85 l0_2 x3_1).f0) : Int):=oT_ (by first | (with_reducible assumption) | assumption)
             have q158 : ((rd_T85 l0_2 x3_1).f0) < (l0_1.length : Int):=oT_ (by first | (with_reducible assumption) | assumption)
             obtain ⟨ad158,e158,hx158_0,hx158_1,hx158_2⟩:=at_T82 HR0_1.out ((rd_T85 l0_2 x3_1).f0) p158 q158
             (try rw [← Nbq32.out] at hx158_2)
             cases e158
             replace hx158_0:=(HB.out.cell (wL_ w _ hx158_0)).trans hx158_0
             replace hx158_1:=(HB.out.cell (wL_ w _ hx158_1)).trans hx158_1
             replace hx158_2:=(HB.out.cell (wL_ w _ hx158_2)).trans hx158_2
             replace p158:=eq_true p158
             replace q158:=eq_true q158
             go_wp2
             repeat (go_quiet (fail);try go_wp2)
             go_ret
             exact ⟨by first | rfl | (simp [errW_none,errW_some] <;> rfl) | (simp [*, errW_none,errW_some] <;> rfl),by exact bZ_ HB⟩
            ·replace c33:=Bool.eq_false_iff.mpr c33
             subst c33
             have H1 : (spec_CheckDef.l0 k1 (wrap64 (x3_1 + 1)) a0_0 l0_1 l0_2 l0_3) = some r:=by rw [if_neg (show ¬ (false = true) by decide)] at H;exact H
             clear H
             have H:=H1
             clear H1
             have H':=aM_ H
             clear H
             have hcz35_0 : wr.cell? ⟨gb152,0,none⟩ = some (.string a0_0):=(kC_ BK152.out 0).trans rfl
             have hcz35_1 : wr.cell? ⟨gb152,1,none⟩ = some (.slice A0_1 l0_1.length c0_1):=(kC_ BK152.out 1).trans rfl
             have hcz35_2 : wr.cell? ⟨gb152,2,none⟩ = some (.slice A0_2 l0_2.length c0_2):=(kC_ BK152.out 2).trans rfl
             have hcz35_3 : wr.cell? ⟨gb152,3,none⟩ = some (.slice A0_3 l0_3.length c0_3):=(kC_ BK152.out 3).trans rfl
             have hfz35_0:=kF_ BK152.out 0
             have hfz35_1:=kF_ BK152.out 1
             have hfz35_2:=kF_ BK152.out 2
             have hfz35_3:=kF_ BK152.out 3
             have p157 : 0 ≤ (x3_1 : Int):=oT_ (by first | (with_reducible assumption) | assumption)
             have q157 : x3_1 < (l0_2.length : Int):=oT_ (by first | (with_reducible assumption) | assumption)
             obtain ⟨ad157,e157,hx157_0,hx157_1⟩:=at_T85 HR0_2.out x3_1 p157 q157
             (try rw [← Nbq32.out] at hx157_1)
             cases e157
             replace hx157_0:=(HB.out.cell (wL_ w _ hx157_0)).trans hx157_0
             replace hx157_1:=(HB.out.cell (wL_ w _ hx157_1)).trans hx157_1
             replace p157:=eq_true p157
             replace q157:=eq_true q157
             have p158 : 0 ≤ (((rd_T85 l0_2 x3_1).f0) : Int):=oT_ (by first | (with_reducible assumption) | assumption)
             have q158 : ((rd_T85 l0_2 x3_1).f0) < (l0_1.length : Int):=oT_ (by first | (with_reducible assumption) | assumption)
             obtain ⟨ad158,e158,hx158_0,hx158_1,hx158_2⟩:=at_T82 HR0_1.out ((rd_T85 l0_2 x3_1).f0) p158 q158
             (try rw [← Nbq32.out] at hx158_2)
             cases e158
             replace hx158_0:=(HB.out.cell (wL_ w _ hx158_0)).trans hx158_0
             replace hx158_1:=(HB.out.cell (wL_ w _ hx158_1)).trans hx158_1
             replace hx158_2:=(HB.out.cell (wL_ w _ hx158_2)).trans hx158_2
             replace p158:=eq_true p158
             replace q158:=eq_true q158
             go_wp2
             repeat (go_quiet (fail);try go_wp2)
             go_roundg k1
             case measure=>have:=HK1.out;omega
             case rel=>exact ⟨(wrap64 (x3_1 + 1)),(by first | rfl | (simp;done) | (simp [*];done)),H', ⟨by have:=HK1.out;omega⟩,⟨by exact kZ_ BK152⟩,⟨by exact bZ_ HB⟩⟩
           ·rw [if_neg c31] at H
            exact absurd H (by simp)
          ·rw [if_neg c30] at H
           exact absurd H (by simp)
         ·rw [if_neg c29] at H
          exact absurd H (by simp)
        ·rw [if_neg c28] at H
         have c28b0 : decide (x3_1 < (l0_2.length : Int)) = false:=decide_eq_false c28
         clear c28
         obtain rfl:=Option.some.inj H
         have hcz36_0 : wr.cell? ⟨gb152,0,none⟩ = some (.string a0_0):=(kC_ BK152.out 0).trans rfl
         have hcz36_1 : wr.cell? ⟨gb152,1,none⟩ = some (.slice A0_1 l0_1.length c0_1):=(kC_ BK152.out 1).trans rfl
         have hcz36_2 : wr.cell? ⟨gb152,2,none⟩ = some (.slice A0_2 l0_2.length c0_2):=(kC_ BK152.out 2).trans rfl
         have hcz36_3 : wr.cell? ⟨gb152,3,none⟩ = some (.slice A0_3 l0_3.length c0_3):=(kC_ BK152.out 3).trans rfl
         have hfz36_0:=kF_ BK152.out 0
         have hfz36_1:=kF_ BK152.out 1
         have hfz36_2:=kF_ BK152.out 2
         have hfz36_3:=kF_ BK152.out 3
         go_wp2
         repeat (go_quiet (fail);try go_wp2)
         go_ret
         exact ⟨by first | rfl | (simp [errW_none,errW_some] <;> rfl) | (simp [*, errW_none,errW_some] <;> rfl),by exact bZ_ HB⟩
     ·replace c18:=Bool.eq_false_iff.mpr c18
      subst c18
      have H1 : (some 5) = some r:=by rw [if_neg (show ¬ (false = true) by decide)] at H;exact H
      clear H
      have H:=H1
      clear H1
      obtain rfl:=Option.some.inj H
      go_enter Tryd.func23,Tryd.ntmps23
      go_wp2_with (first | ((with_reducible refine gate_dst (N:=1) rfl ?_);refine box_event ?hg (N:=1) ?hd (cs:=#[.string a0_0,.slice A0_1 l0_1.length c0_1,.slice A0_2 l0_2.length c0_2,.slice A0_3 l0_3.length c0_3]) (t:=35) ?hr ?_;(case hd=>rfl);(case hg=>rfl);(case hr=>first | (go_simp;done) | (go_simp;rfl));intro gb152 hg w37 hbox hb;have n0_:=aM_ (bT_ (by exact bZ_ HB) hb);have n1_:=aM_ (hbox);have n2_:=aM_ ((by rw [hg];exact (bS_ (by exact bZ_ HB)) : w.heap.size ≤ gb152));have n3_:=aM_ ((by rw [hg];exact (bS_ (by exact bZ_ HB)) : w.heap.size ≤ gb152));clear HB;have HB:=n0_;have BK152:=n1_;have GW152:=n2_;have GE152:=n3_;clear n0_ n1_ n2_ n3_;clear hb hbox hg;have hcz38_0 : w37.cell? ⟨gb152,0,none⟩ = some (.string a0_0):=(kC_ BK152.out 0).trans rfl;have hcz38_1 : w37.cell? ⟨gb152,1,none⟩ = some (.slice A0_1 l0_1.length c0_1):=(kC_ BK152.out 1).trans rfl;have hcz38_2 : w37.cell? ⟨gb152,2,none⟩ = some (.slice A0_2 l0_2.length c0_2):=(kC_ BK152.out 2).trans rfl;have hcz38_3 : w37.cell? ⟨gb152,3,none⟩ = some (.slice A0_3 l0_3.length c0_3):=(kC_ BK152.out 3).trans rfl;have hfz38_0:=kF_ BK152.out 0;have hfz38_1:=kF_ BK152.out 1;have hfz38_2:=kF_ BK152.out 2;have hfz38_3:=kF_ BK152.out 3) | (go_at_call 60;(with_reducible refine (spec_l9Names.calls k a0_0 _ _ l0_1 _ _ l0_2 _ _ l0_3 true _ ?side1 ?side2 ?side3 ?side4 ?side5 ?side6 A2.out).mono ?_);(case side1=>repeat (first | exact (Kd.C_below HR0_1.out HB.out) | (with_reducible refine cA_ ?_ _) | (with_reducible refine cN_ ?_ _) | (with_reducible refine cD_ ?_)));(case side2=>exact HC0_1.out);(case side3=>repeat (first | exact (Kd.C_below HR0_2.out HB.out) | (with_reducible refine cA_ ?_ _) | (with_reducible refine cN_ ?_ _) | (with_reducible refine cD_ ?_)));(case side4=>exact HC0_2.out);(case side5=>repeat (first | exact (Kd.C_below HR0_3.out HB.out) | (with_reducible refine cA_ ?_ _) | (with_reducible refine cN_ ?_ _) | (with_reducible refine cD_ ?_)));(case side6=>exact HC0_3.out);rintro e w39 ⟨rfl,hb⟩;have n0_:=aM_ (blk_below (g:=gb152) (o:=.cells #[.string a0_0,.slice A0_1 l0_1.length c0_1,.slice A0_2 l0_2.length c0_2,.slice A0_3 l0_3.length c0_3] 35 (0,0)) (by exact kZ_ BK152) hb);have n1_:=aM_ (bT_ (by exact bZ_ HB) hb);clear BK152;clear HB;have BK152:=n0_;have HB:=n1_;clear n0_ n1_;(try clear hb);(try clear hb2);(try clear hk);(try clear hi);have hcz40_0 : w39.cell? ⟨gb152,0,none⟩ = some (.string a0_0):=(kC_ BK152.out 0).trans rfl;have hcz40_1 : w39.cell? ⟨gb152,1,none⟩ = some (.slice A0_1 l0_1.length c0_1):=(kC_ BK152.out 1).trans rfl;have hcz40_2 : w39.cell? ⟨gb152,2,none⟩ = some (.slice A0_2 l0_2.length c0_2):=(kC_ BK152.out 2).trans rfl;have hcz40_3 : w39.cell? ⟨gb152,3,none⟩ = some (.slice A0_3 l0_3.length c0_3):=(kC_ BK152.out 3).trans rfl;have hfz40_0:=kF_ BK152.out 0;have hfz40_1:=kF_ BK152.out 1;have hfz40_2:=kF_ BK152.out 2;have hfz40_3:=kF_ BK152.out 3) | (go_at_call 61;(with_reducible refine (spec_l9Types.calls k a0_0 _ _ l0_1 _ _ l0_2 _ _ l0_3 true _ ?side1 ?side2 ?side3 ?side4 ?side5 ?side6 A4.out).mono ?_);(case side1=>repeat (first | exact (Kd.C_below HR0_1.out HB.out) | (with_reducible refine cA_ ?_ _) | (with_reducible refine cN_ ?_ _) | (with_reducible refine cD_ ?_)));(case side2=>exact HC0_1.out);(case side3=>repeat (first | exact (Kd.C_below HR0_2.out HB.out) | (with_reducible refine cA_ ?_ _) | (with_reducible refine cN_ ?_ _) | (with_reducible refine cD_ ?_)));(case side4=>exact HC0_2.out);(case side5=>repeat (first | exact (Kd.C_below HR0_3.out HB.out) | (with_reducible refine cA_ ?_ _) | (with_reducible refine cN_ ?_ _) | (with_reducible refine cD_ ?_)));(case side6=>exact HC0_3.out);rintro e w41 ⟨rfl,hb⟩;have n0_:=aM_ (blk_below (g:=gb152) (o:=.cells #[.string a0_0,.slice A0_1 l0_1.length c0_1,.slice A0_2 l0_2.length c0_2,.slice A0_3 l0_3.length c0_3] 35 (0,0)) (by exact kZ_ BK152) hb);have n1_:=aM_ (bT_ (by exact bZ_ HB) hb);clear BK152;clear HB;have BK152:=n0_;have HB:=n1_;clear n0_ n1_;(try clear hb);(try clear hb2);(try clear hk);(try clear hi);have hcz42_0 : w41.cell? ⟨gb152,0,none⟩ = some (.string a0_0):=(kC_ BK152.out 0).trans rfl;have hcz42_1 : w41.cell? ⟨gb152,1,none⟩ = some (.slice A0_1 l0_1.length c0_1):=(kC_ BK152.out 1).trans rfl;have hcz42_2 : w41.cell? ⟨gb152,2,none⟩ = some (.slice A0_2 l0_2.length c0_2):=(kC_ BK152.out 2).trans rfl;have hcz42_3 : w41.cell? ⟨gb152,3,none⟩ = some (.slice A0_3 l0_3.length c0_3):=(kC_ BK152.out 3).trans rfl;have hfz42_0:=kF_ BK152.out 0;have hfz42_1:=kF_ BK152.out 1;have hfz42_2:=kF_ BK152.out 2;have hfz42_3:=kF_ BK152.out 3) | (go_at_call 62;(with_reducible refine (spec_l9Once.calls k a0_0 _ _ l0_1 _ _ l0_2 _ _ l0_3 true _ ?side1 ?side2 ?side3 ?side4 ?side5 ?side6 A6.out).mono ?_);(case side1=>repeat (first | exact (Kd.C_below HR0_1.out HB.out) | (with_reducible refine cA_ ?_ _) | (with_reducible refine cN_ ?_ _) | (with_reducible refine cD_ ?_)));(case side2=>exact HC0_1.out);(case side3=>repeat (first | exact (Kd.C_below HR0_2.out HB.out) | (with_reducible refine cA_ ?_ _) | (with_reducible refine cN_ ?_ _) | (with_reducible refine cD_ ?_)));(case side4=>exact HC0_2.out);(case side5=>repeat (first | exact (Kd.C_below HR0_3.out HB.out) | (with_reducible refine cA_ ?_ _) | (with_reducible refine cN_ ?_ _) | (with_reducible refine cD_ ?_)));(case side6=>exact HC0_3.out);rintro e w43 ⟨rfl,hb⟩;have n0_:=aM_ (blk_below (g:=gb152) (o:=.cells #[.string a0_0,.slice A0_1 l0_1.length c0_1,.slice A0_2 l0_2.length c0_2,.slice A0_3 l0_3.length c0_3] 35 (0,0)) (by exact kZ_ BK152) hb);have n1_:=aM_ (bT_ (by exact bZ_ HB) hb);clear BK152;clear HB;have BK152:=n0_;have HB:=n1_;clear n0_ n1_;(try clear hb);(try clear hb2);(try clear hk);(try clear hi);have hcz44_0 : w43.cell? ⟨gb152,0,none⟩ = some (.string a0_0):=(kC_ BK152.out 0).trans rfl;have hcz44_1 : w43.cell? ⟨gb152,1,none⟩ = some (.slice A0_1 l0_1.length c0_1):=(kC_ BK152.out 1).trans rfl;have hcz44_2 : w43.cell? ⟨gb152,2,none⟩ = some (.slice A0_2 l0_2.length c0_2):=(kC_ BK152.out 2).trans rfl;have hcz44_3 : w43.cell? ⟨gb152,3,none⟩ = some (.slice A0_3 l0_3.length c0_3):=(kC_ BK152.out 3).trans rfl;have hfz44_0:=kF_ BK152.out 0;have hfz44_1:=kF_ BK152.out 1;have hfz44_2:=kF_ BK152.out 2;have hfz44_3:=kF_ BK152.out 3) | (go_at_call 63;(with_reducible refine (spec_l9AllParts.calls k a0_0 _ _ l0_1 _ _ l0_2 _ _ l0_3 false _ ?side1 ?side2 ?side3 ?side4 ?side5 ?side6 A17.out).mono ?_);(case side1=>repeat (first | exact (Kd.C_below HR0_1.out HB.out) | (with_reducible refine cA_ ?_ _) | (with_reducible refine cN_ ?_ _) | (with_reducible refine cD_ ?_)));(case side2=>exact HC0_1.out);(case side3=>repeat (first | exact (Kd.C_below HR0_2.out HB.out) | (with_reducible refine cA_ ?_ _) | (with_reducible refine cN_ ?_ _) | (with_reducible refine cD_ ?_)));(case side4=>exact HC0_2.out);(case side5=>repeat (first | exact (Kd.C_below HR0_3.out HB.out) | (with_reducible refine cA_ ?_ _) | (with_reducible refine cN_ ?_ _) | (with_reducible refine cD_ ?_)));(case side6=>exact HC0_3.out);rintro e w45 ⟨rfl,hb⟩;have n0_:=aM_ (blk_below (g:=gb152) (o:=.cells #[.string a0_0,.slice A0_1 l0_1.length c0_1,.slice A0_2 l0_2.length c0_2,.slice A0_3 l0_3.length c0_3] 35 (0,0)) (by exact kZ_ BK152) hb);have n1_:=aM_ (bT_ (by exact bZ_ HB) hb);clear BK152;clear HB;have BK152:=n0_;have HB:=n1_;clear n0_ n1_;(try clear hb);(try clear hb2);(try clear hk);(try clear hi)))
      repeat (go_quiet (first | ((with_reducible refine gate_dst (N:=1) rfl ?_);refine box_event ?hg (N:=1) ?hd (cs:=#[.string a0_0,.slice A0_1 l0_1.length c0_1,.slice A0_2 l0_2.length c0_2,.slice A0_3 l0_3.length c0_3]) (t:=35) ?hr ?_;(case hd=>rfl);(case hg=>rfl);(case hr=>first | (go_simp;done) | (go_simp;rfl));intro gb152 hg w37 hbox hb;have n0_:=aM_ (bT_ (by exact bZ_ HB) hb);have n1_:=aM_ (hbox);have n2_:=aM_ ((by rw [hg];exact (bS_ (by exact bZ_ HB)) : w.heap.size ≤ gb152));have n3_:=aM_ ((by rw [hg];exact (bS_ (by exact bZ_ HB)) : w.heap.size ≤ gb152));clear HB;have HB:=n0_;have BK152:=n1_;have GW152:=n2_;have GE152:=n3_;clear n0_ n1_ n2_ n3_;clear hb hbox hg;have hcz38_0 : w37.cell? ⟨gb152,0,none⟩ = some (.string a0_0):=(kC_ BK152.out 0).trans rfl;have hcz38_1 : w37.cell? ⟨gb152,1,none⟩ = some (.slice A0_1 l0_1.length c0_1):=(kC_ BK152.out 1).trans rfl;have hcz38_2 : w37.cell? ⟨gb152,2,none⟩ = some (.slice A0_2 l0_2.length c0_2):=(kC_ BK152.out 2).trans rfl;have hcz38_3 : w37.cell? ⟨gb152,3,none⟩ = some (.slice A0_3 l0_3.length c0_3):=(kC_ BK152.out 3).trans rfl;have hfz38_0:=kF_ BK152.out 0;have hfz38_1:=kF_ BK152.out 1;have hfz38_2:=kF_ BK152.out 2;have hfz38_3:=kF_ BK152.out 3) | (go_at_call 60;(with_reducible refine (spec_l9Names.calls k a0_0 _ _ l0_1 _ _ l0_2 _ _ l0_3 true _ ?side1 ?side2 ?side3 ?side4 ?side5 ?side6 A2.out).mono ?_);(case side1=>repeat (first | exact (Kd.C_below HR0_1.out HB.out) | (with_reducible refine cA_ ?_ _) | (with_reducible refine cN_ ?_ _) | (with_reducible refine cD_ ?_)));(case side2=>exact HC0_1.out);(case side3=>repeat (first | exact (Kd.C_below HR0_2.out HB.out) | (with_reducible refine cA_ ?_ _) | (with_reducible refine cN_ ?_ _) | (with_reducible refine cD_ ?_)));(case side4=>exact HC0_2.out);(case side5=>repeat (first | exact (Kd.C_below HR0_3.out HB.out) | (with_reducible refine cA_ ?_ _) | (with_reducible refine cN_ ?_ _) | (with_reducible refine cD_ ?_)));(case side6=>exact HC0_3.out);rintro e w39 ⟨rfl,hb⟩;have n0_:=aM_ (blk_below (g:=gb152) (o:=.cells #[.string a0_0,.slice A0_1 l0_1.length c0_1,.slice A0_2 l0_2.length c0_2,.slice A0_3 l0_3.length c0_3] 35 (0,0)) (by exact kZ_ BK152) hb);have n1_:=aM_ (bT_ (by exact bZ_ HB) hb);clear BK152;clear HB;have BK152:=n0_;have HB:=n1_;clear n0_ n1_;(try clear hb);(try clear hb2);(try clear hk);(try clear hi);have hcz40_0 : w39.cell? ⟨gb152,0,none⟩ = some (.string a0_0):=(kC_ BK152.out 0).trans rfl;have hcz40_1 : w39.cell? ⟨gb152,1,none⟩ = some (.slice A0_1 l0_1.length c0_1):=(kC_ BK152.out 1).trans rfl;have hcz40_2 : w39.cell? ⟨gb152,2,none⟩ = some (.slice A0_2 l0_2.length c0_2):=(kC_ BK152.out 2).trans rfl;have hcz40_3 : w39.cell? ⟨gb152,3,none⟩ = some (.slice A0_3 l0_3.length c0_3):=(kC_ BK152.out 3).trans rfl;have hfz40_0:=kF_ BK152.out 0;have hfz40_1:=kF_ BK152.out 1;have hfz40_2:=kF_ BK152.out 2;have hfz40_3:=kF_ BK152.out 3) | (go_at_call 61;(with_reducible refine (spec_l9Types.calls k a0_0 _ _ l0_1 _ _ l0_2 _ _ l0_3 true _ ?side1 ?side2 ?side3 ?side4 ?side5 ?side6 A4.out).mono ?_);(case side1=>repeat (first | exact (Kd.C_below HR0_1.out HB.out) | (with_reducible refine cA_ ?_ _) | (with_reducible refine cN_ ?_ _) | (with_reducible refine cD_ ?_)));(case side2=>exact HC0_1.out);(case side3=>repeat (first | exact (Kd.C_below HR0_2.out HB.out) | (with_reducible refine cA_ ?_ _) | (with_reducible refine cN_ ?_ _) | (with_reducible refine cD_ ?_)));(case side4=>exact HC0_2.out);(case side5=>repeat (first | exact (Kd.C_below HR0_3.out HB.out) | (with_reducible refine cA_ ?_ _) | (with_reducible refine cN_ ?_ _) | (with_reducible refine cD_ ?_)));(case side6=>exact HC0_3.out);rintro e w41 ⟨rfl,hb⟩;have n0_:=aM_ (blk_below (g:=gb152) (o:=.cells #[.string a0_0,.slice A0_1 l0_1.length c0_1,.slice A0_2 l0_2.length c0_2,.slice A0_3 l0_3.length c0_3] 35 (0,0)) (by exact kZ_ BK152) hb);have n1_:=aM_ (bT_ (by exact bZ_ HB) hb);clear BK152;clear HB;have BK152:=n0_;have HB:=n1_;clear n0_ n1_;(try clear hb);(try clear hb2);(try clear hk);(try clear hi);have hcz42_0 : w41.cell? ⟨gb152,0,none⟩ = some (.string a0_0):=(kC_ BK152.out 0).trans rfl;have hcz42_1 : w41.cell? ⟨gb152,1,none⟩ = some (.slice A0_1 l0_1.length c0_1):=(kC_ BK152.out 1).trans rfl;have hcz42_2 : w41.cell? ⟨gb152,2,none⟩ = some (.slice A0_2 l0_2.length c0_2):=(kC_ BK152.out 2).trans rfl;have hcz42_3 : w41.cell? ⟨gb152,3,none⟩ = some (.slice A0_3 l0_3.length c0_3):=(kC_ BK152.out 3).trans rfl;have hfz42_0:=kF_ BK152.out 0;have hfz42_1:=kF_ BK152.out 1;have hfz42_2:=kF_ BK152.out 2;have hfz42_3:=kF_ BK152.out 3) | (go_at_call 62;(with_reducible refine (spec_l9Once.calls k a0_0 _ _ l0_1 _ _ l0_2 _ _ l0_3 true _ ?side1 ?side2 ?side3 ?side4 ?side5 ?side6 A6.out).mono ?_);(case side1=>repeat (first | exact (Kd.C_below HR0_1.out HB.out) | (with_reducible refine cA_ ?_ _) | (with_reducible refine cN_ ?_ _) | (with_reducible refine cD_ ?_)));(case side2=>exact HC0_1.out);(case side3=>repeat (first | exact (Kd.C_below HR0_2.out HB.out) | (with_reducible refine cA_ ?_ _) | (with_reducible refine cN_ ?_ _) | (with_reducible refine cD_ ?_)));(case side4=>exact HC0_2.out);(case side5=>repeat (first | exact (Kd.C_below HR0_3.out HB.out) | (with_reducible refine cA_ ?_ _) | (with_reducible refine cN_ ?_ _) | (with_reducible refine cD_ ?_)));(case side6=>exact HC0_3.out);rintro e w43 ⟨rfl,hb⟩;have n0_:=aM_ (blk_below (g:=gb152) (o:=.cells #[.string a0_0,.slice A0_1 l0_1.length c0_1,.slice A0_2 l0_2.length c0_2,.slice A0_3 l0_3.length c0_3] 35 (0,0)) (by exact kZ_ BK152) hb);have n1_:=aM_ (bT_ (by exact bZ_ HB) hb);clear BK152;clear HB;have BK152:=n0_;have HB:=n1_;clear n0_ n1_;(try clear hb);(try clear hb2);(try clear hk);(try clear hi);have hcz44_0 : w43.cell? ⟨gb152,0,none⟩ = some (.string a0_0):=(kC_ BK152.out 0).trans rfl;have hcz44_1 : w43.cell? ⟨gb152,1,none⟩ = some (.slice A0_1 l0_1.length c0_1):=(kC_ BK152.out 1).trans rfl;have hcz44_2 : w43.cell? ⟨gb152,2,none⟩ = some (.slice A0_2 l0_2.length c0_2):=(kC_ BK152.out 2).trans rfl;have hcz44_3 : w43.cell? ⟨gb152,3,none⟩ = some (.slice A0_3 l0_3.length c0_3):=(kC_ BK152.out 3).trans rfl;have hfz44_0:=kF_ BK152.out 0;have hfz44_1:=kF_ BK152.out 1;have hfz44_2:=kF_ BK152.out 2;have hfz44_3:=kF_ BK152.out 3) | (go_at_call 63;(with_reducible refine (spec_l9AllParts.calls k a0_0 _ _ l0_1 _ _ l0_2 _ _ l0_3 false _ ?side1 ?side2 ?side3 ?side4 ?side5 ?side6 A17.out).mono ?_);(case side1=>repeat (first | exact (Kd.C_below HR0_1.out HB.out) | (with_reducible refine cA_ ?_ _) | (with_reducible refine cN_ ?_ _) | (with_reducible refine cD_ ?_)));(case side2=>exact HC0_1.out);(case side3=>repeat (first | exact (Kd.C_below HR0_2.out HB.out) | (with_reducible refine cA_ ?_ _) | (with_reducible refine cN_ ?_ _) | (with_reducible refine cD_ ?_)));(case side4=>exact HC0_2.out);(case side5=>repeat (first | exact (Kd.C_below HR0_3.out HB.out) | (with_reducible refine cA_ ?_ _) | (with_reducible refine cN_ ?_ _) | (with_reducible refine cD_ ?_)));(case side6=>exact HC0_3.out);rintro e w45 ⟨rfl,hb⟩;have n0_:=aM_ (blk_below (g:=gb152) (o:=.cells #[.string a0_0,.slice A0_1 l0_1.length c0_1,.slice A0_2 l0_2.length c0_2,.slice A0_3 l0_3.length c0_3] 35 (0,0)) (by exact kZ_ BK152) hb);have n1_:=aM_ (bT_ (by exact bZ_ HB) hb);clear BK152;clear HB;have BK152:=n0_;have HB:=n1_;clear n0_ n1_;(try clear hb);(try clear hb2);(try clear hk);(try clear hi)));try go_wp2_with (first | ((with_reducible refine gate_dst (N:=1) rfl ?_);refine box_event ?hg (N:=1) ?hd (cs:=#[.string a0_0,.slice A0_1 l0_1.length c0_1,.slice A0_2 l0_2.length c0_2,.slice A0_3 l0_3.length c0_3]) (t:=35) ?hr ?_;(case hd=>rfl);(case hg=>rfl);(case hr=>first | (go_simp;done) | (go_simp;rfl));intro gb152 hg w37 hbox hb;have n0_:=aM_ (bT_ (by exact bZ_ HB) hb);have n1_:=aM_ (hbox);have n2_:=aM_ ((by rw [hg];exact (bS_ (by exact bZ_ HB)) : w.heap.size ≤ gb152));have n3_:=aM_ ((by rw [hg];exact (bS_ (by exact bZ_ HB)) : w.heap.size ≤ gb152));clear HB;have HB:=n0_;have BK152:=n1_;have GW152:=n2_;have GE152:=n3_;clear n0_ n1_ n2_ n3_;clear hb hbox hg;have hcz38_0 : w37.cell? ⟨gb152,0,none⟩ = some (.string a0_0):=(kC_ BK152.out 0).trans rfl;have hcz38_1 : w37.cell? ⟨gb152,1,none⟩ = some (.slice A0_1 l0_1.length c0_1):=(kC_ BK152.out 1).trans rfl;have hcz38_2 : w37.cell? ⟨gb152,2,none⟩ = some (.slice A0_2 l0_2.length c0_2):=(kC_ BK152.out 2).trans rfl;have hcz38_3 : w37.cell? ⟨gb152,3,none⟩ = some (.slice A0_3 l0_3.length c0_3):=(kC_ BK152.out 3).trans rfl;have hfz38_0:=kF_ BK152.out 0;have hfz38_1:=kF_ BK152.out 1;have hfz38_2:=kF_ BK152.out 2;have hfz38_3:=kF_ BK152.out 3) | (go_at_call 60;(with_reducible refine (spec_l9Names.calls k a0_0 _ _ l0_1 _ _ l0_2 _ _ l0_3 true _ ?side1 ?side2 ?side3 ?side4 ?side5 ?side6 A2.out).mono ?_);(case side1=>repeat (first | exact (Kd.C_below HR0_1.out HB.out) | (with_reducible refine cA_ ?_ _) | (with_reducible refine cN_ ?_ _) | (with_reducible refine cD_ ?_)));(case side2=>exact HC0_1.out);(case side3=>repeat (first | exact (Kd.C_below HR0_2.out HB.out) | (with_reducible refine cA_ ?_ _) | (with_reducible refine cN_ ?_ _) | (with_reducible refine cD_ ?_)));(case side4=>exact HC0_2.out);(case side5=>repeat (first | exact (Kd.C_below HR0_3.out HB.out) | (with_reducible refine cA_ ?_ _) | (with_reducible refine cN_ ?_ _) | (with_reducible refine cD_ ?_)));(case side6=>exact HC0_3.out);rintro e w39 ⟨rfl,hb⟩;have n0_:=aM_ (blk_below (g:=gb152) (o:=.cells #[.string a0_0,.slice A0_1 l0_1.length c0_1,.slice A0_2 l0_2.length c0_2,.slice A0_3 l0_3.length c0_3] 35 (0,0)) (by exact kZ_ BK152) hb);have n1_:=aM_ (bT_ (by exact bZ_ HB) hb);clear BK152;clear HB;have BK152:=n0_;have HB:=n1_;clear n0_ n1_;(try clear hb);(try clear hb2);(try clear hk);(try clear hi);have hcz40_0 : w39.cell? ⟨gb152,0,none⟩ = some (.string a0_0):=(kC_ BK152.out 0).trans rfl;have hcz40_1 : w39.cell? ⟨gb152,1,none⟩ = some (.slice A0_1 l0_1.length c0_1):=(kC_ BK152.out 1).trans rfl;have hcz40_2 : w39.cell? ⟨gb152,2,none⟩ = some (.slice A0_2 l0_2.length c0_2):=(kC_ BK152.out 2).trans rfl;have hcz40_3 : w39.cell? ⟨gb152,3,none⟩ = some (.slice A0_3 l0_3.length c0_3):=(kC_ BK152.out 3).trans rfl;have hfz40_0:=kF_ BK152.out 0;have hfz40_1:=kF_ BK152.out 1;have hfz40_2:=kF_ BK152.out 2;have hfz40_3:=kF_ BK152.out 3) | (go_at_call 61;(with_reducible refine (spec_l9Types.calls k a0_0 _ _ l0_1 _ _ l0_2 _ _ l0_3 true _ ?side1 ?side2 ?side3 ?side4 ?side5 ?side6 A4.out).mono ?_);(case side1=>repeat (first | exact (Kd.C_below HR0_1.out HB.out) | (with_reducible refine cA_ ?_ _) | (with_reducible refine cN_ ?_ _) | (with_reducible refine cD_ ?_)));(case side2=>exact HC0_1.out);(case side3=>repeat (first | exact (Kd.C_below HR0_2.out HB.out) | (with_reducible refine cA_ ?_ _) | (with_reducible refine cN_ ?_ _) | (with_reducible refine cD_ ?_)));(case side4=>exact HC0_2.out);(case side5=>repeat (first | exact (Kd.C_below HR0_3.out HB.out) | (with_reducible refine cA_ ?_ _) | (with_reducible refine cN_ ?_ _) | (with_reducible refine cD_ ?_)));(case side6=>exact HC0_3.out);rintro e w41 ⟨rfl,hb⟩;have n0_:=aM_ (blk_below (g:=gb152) (o:=.cells #[.string a0_0,.slice A0_1 l0_1.length c0_1,.slice A0_2 l0_2.length c0_2,.slice A0_3 l0_3.length c0_3] 35 (0,0)) (by exact kZ_ BK152) hb);have n1_:=aM_ (bT_ (by exact bZ_ HB) hb);clear BK152;clear HB;have BK152:=n0_;have HB:=n1_;clear n0_ n1_;(try clear hb);(try clear hb2);(try clear hk);(try clear hi);have hcz42_0 : w41.cell? ⟨gb152,0,none⟩ = some (.string a0_0):=(kC_ BK152.out 0).trans rfl;have hcz42_1 : w41.cell? ⟨gb152,1,none⟩ = some (.slice A0_1 l0_1.length c0_1):=(kC_ BK152.out 1).trans rfl;have hcz42_2 : w41.cell? ⟨gb152,2,none⟩ = some (.slice A0_2 l0_2.length c0_2):=(kC_ BK152.out 2).trans rfl;have hcz42_3 : w41.cell? ⟨gb152,3,none⟩ = some (.slice A0_3 l0_3.length c0_3):=(kC_ BK152.out 3).trans rfl;have hfz42_0:=kF_ BK152.out 0;have hfz42_1:=kF_ BK152.out 1;have hfz42_2:=kF_ BK152.out 2;have hfz42_3:=kF_ BK152.out 3) | (go_at_call 62;(with_reducible refine (spec_l9Once.calls k a0_0 _ _ l0_1 _ _ l0_2 _ _ l0_3 true _ ?side1 ?side2 ?side3 ?side4 ?side5 ?side6 A6.out).mono ?_);(case side1=>repeat (first | exact (Kd.C_below HR0_1.out HB.out) | (with_reducible refine cA_ ?_ _) | (with_reducible refine cN_ ?_ _) | (with_reducible refine cD_ ?_)));(case side2=>exact HC0_1.out);(case side3=>repeat (first | exact (Kd.C_below HR0_2.out HB.out) | (with_reducible refine cA_ ?_ _) | (with_reducible refine cN_ ?_ _) | (with_reducible refine cD_ ?_)));(case side4=>exact HC0_2.out);(case side5=>repeat (first | exact (Kd.C_below HR0_3.out HB.out) | (with_reducible refine cA_ ?_ _) | (with_reducible refine cN_ ?_ _) | (with_reducible refine cD_ ?_)));(case side6=>exact HC0_3.out);rintro e w43 ⟨rfl,hb⟩;have n0_:=aM_ (blk_below (g:=gb152) (o:=.cells #[.string a0_0,.slice A0_1 l0_1.length c0_1,.slice A0_2 l0_2.length c0_2,.slice A0_3 l0_3.length c0_3] 35 (0,0)) (by exact kZ_ BK152) hb);have n1_:=aM_ (bT_ (by exact bZ_ HB) hb);clear BK152;clear HB;have BK152:=n0_;have HB:=n1_;clear n0_ n1_;(try clear hb);(try clear hb2);(try clear hk);(try clear hi);have hcz44_0 : w43.cell? ⟨gb152,0,none⟩ = some (.string a0_0):=(kC_ BK152.out 0).trans rfl;have hcz44_1 : w43.cell? ⟨gb152,1,none⟩ = some (.slice A0_1 l0_1.length c0_1):=(kC_ BK152.out 1).trans rfl;have hcz44_2 : w43.cell? ⟨gb152,2,none⟩ = some (.slice A0_2 l0_2.length c0_2):=(kC_ BK152.out 2).trans rfl;have hcz44_3 : w43.cell? ⟨gb152,3,none⟩ = some (.slice A0_3 l0_3.length c0_3):=(kC_ BK152.out 3).trans rfl;have hfz44_0:=kF_ BK152.out 0;have hfz44_1:=kF_ BK152.out 1;have hfz44_2:=kF_ BK152.out 2;have hfz44_3:=kF_ BK152.out 3) | (go_at_call 63;(with_reducible refine (spec_l9AllParts.calls k a0_0 _ _ l0_1 _ _ l0_2 _ _ l0_3 false _ ?side1 ?side2 ?side3 ?side4 ?side5 ?side6 A17.out).mono ?_);(case side1=>repeat (first | exact (Kd.C_below HR0_1.out HB.out) | (with_reducible refine cA_ ?_ _) | (with_reducible refine cN_ ?_ _) | (with_reducible refine cD_ ?_)));(case side2=>exact HC0_1.out);(case side3=>repeat (first | exact (Kd.C_below HR0_2.out HB.out) | (with_reducible refine cA_ ?_ _) | (with_reducible refine cN_ ?_ _) | (with_reducible refine cD_ ?_)));(case side4=>exact HC0_2.out);(case side5=>repeat (first | exact (Kd.C_below HR0_3.out HB.out) | (with_reducible refine cA_ ?_ _) | (with_reducible refine cN_ ?_ _) | (with_reducible refine cD_ ?_)));(case side6=>exact HC0_3.out);rintro e w45 ⟨rfl,hb⟩;have n0_:=aM_ (blk_below (g:=gb152) (o:=.cells #[.string a0_0,.slice A0_1 l0_1.length c0_1,.slice A0_2 l0_2.length c0_2,.slice A0_3 l0_3.length c0_3] 35 (0,0)) (by exact kZ_ BK152) hb);have n1_:=aM_ (bT_ (by exact bZ_ HB) hb);clear BK152;clear HB;have BK152:=n0_;have HB:=n1_;clear n0_ n1_;(try clear hb);(try clear hb2);(try clear hk);(try clear hi))))
      go_ret
      exact ⟨by first | rfl | (simp [errW_none,errW_some] <;> rfl) | (simp [*, errW_none,errW_some] <;> rfl),by exact bZ_ HB⟩
   ·replace c7:=Bool.eq_false_iff.mpr c7
    subst c7
    have H1 : (some 3) = some r:=by rw [if_neg (show ¬ (false = true) by decide)] at H;exact H
    clear H
    have H:=H1
    clear H1
    obtain rfl:=Option.some.inj H
    go_enter Tryd.func23,Tryd.ntmps23
    go_wp2_with (first | ((with_reducible refine gate_dst (N:=1) rfl ?_);refine box_event ?hg (N:=1) ?hd (cs:=#[.string a0_0,.slice A0_1 l0_1.length c0_1,.slice A0_2 l0_2.length c0_2,.slice A0_3 l0_3.length c0_3]) (t:=35) ?hr ?_;(case hd=>rfl);(case hg=>rfl);(case hr=>first | (go_simp;done) | (go_simp;rfl));intro gb152 hg w46 hbox hb;have n0_:=aM_ (bT_ (by exact bZ_ HB) hb);have n1_:=aM_ (hbox);have n2_:=aM_ ((by rw [hg];exact (bS_ (by exact bZ_ HB)) : w.heap.size ≤ gb152));have n3_:=aM_ ((by rw [hg];exact (bS_ (by exact bZ_ HB)) : w.heap.size ≤ gb152));clear HB;have HB:=n0_;have BK152:=n1_;have GW152:=n2_;have GE152:=n3_;clear n0_ n1_ n2_ n3_;clear hb hbox hg;have hcz47_0 : w46.cell? ⟨gb152,0,none⟩ = some (.string a0_0):=(kC_ BK152.out 0).trans rfl;have hcz47_1 : w46.cell? ⟨gb152,1,none⟩ = some (.slice A0_1 l0_1.length c0_1):=(kC_ BK152.out 1).trans rfl;have hcz47_2 : w46.cell? ⟨gb152,2,none⟩ = some (.slice A0_2 l0_2.length c0_2):=(kC_ BK152.out 2).trans rfl;have hcz47_3 : w46.cell? ⟨gb152,3,none⟩ = some (.slice A0_3 l0_3.length c0_3):=(kC_ BK152.out 3).trans rfl;have hfz47_0:=kF_ BK152.out 0;have hfz47_1:=kF_ BK152.out 1;have hfz47_2:=kF_ BK152.out 2;have hfz47_3:=kF_ BK152.out 3) | (go_at_call 60;(with_reducible refine (spec_l9Names.calls k a0_0 _ _ l0_1 _ _ l0_2 _ _ l0_3 true _ ?side1 ?side2 ?side3 ?side4 ?side5 ?side6 A2.out).mono ?_);(case side1=>repeat (first | exact (Kd.C_below HR0_1.out HB.out) | (with_reducible refine cA_ ?_ _) | (with_reducible refine cN_ ?_ _) | (with_reducible refine cD_ ?_)));(case side2=>exact HC0_1.out);(case side3=>repeat (first | exact (Kd.C_below HR0_2.out HB.out) | (with_reducible refine cA_ ?_ _) | (with_reducible refine cN_ ?_ _) | (with_reducible refine cD_ ?_)));(case side4=>exact HC0_2.out);(case side5=>repeat (first | exact (Kd.C_below HR0_3.out HB.out) | (with_reducible refine cA_ ?_ _) | (with_reducible refine cN_ ?_ _) | (with_reducible refine cD_ ?_)));(case side6=>exact HC0_3.out);rintro e w48 ⟨rfl,hb⟩;have n0_:=aM_ (blk_below (g:=gb152) (o:=.cells #[.string a0_0,.slice A0_1 l0_1.length c0_1,.slice A0_2 l0_2.length c0_2,.slice A0_3 l0_3.length c0_3] 35 (0,0)) (by exact kZ_ BK152) hb);have n1_:=aM_ (bT_ (by exact bZ_ HB) hb);clear BK152;clear HB;have BK152:=n0_;have HB:=n1_;clear n0_ n1_;(try clear hb);(try clear hb2);(try clear hk);(try clear hi);have hcz49_0 : w48.cell? ⟨gb152,0,none⟩ = some (.string a0_0):=(kC_ BK152.out 0).trans rfl;have hcz49_1 : w48.cell? ⟨gb152,1,none⟩ = some (.slice A0_1 l0_1.length c0_1):=(kC_ BK152.out 1).trans rfl;have hcz49_2 : w48.cell? ⟨gb152,2,none⟩ = some (.slice A0_2 l0_2.length c0_2):=(kC_ BK152.out 2).trans rfl;have hcz49_3 : w48.cell? ⟨gb152,3,none⟩ = some (.slice A0_3 l0_3.length c0_3):=(kC_ BK152.out 3).trans rfl;have hfz49_0:=kF_ BK152.out 0;have hfz49_1:=kF_ BK152.out 1;have hfz49_2:=kF_ BK152.out 2;have hfz49_3:=kF_ BK152.out 3) | (go_at_call 61;(with_reducible refine (spec_l9Types.calls k a0_0 _ _ l0_1 _ _ l0_2 _ _ l0_3 true _ ?side1 ?side2 ?side3 ?side4 ?side5 ?side6 A4.out).mono ?_);(case side1=>repeat (first | exact (Kd.C_below HR0_1.out HB.out) | (with_reducible refine cA_ ?_ _) | (with_reducible refine cN_ ?_ _) | (with_reducible refine cD_ ?_)));(case side2=>exact HC0_1.out);(case side3=>repeat (first | exact (Kd.C_below HR0_2.out HB.out) | (with_reducible refine cA_ ?_ _) | (with_reducible refine cN_ ?_ _) | (with_reducible refine cD_ ?_)));(case side4=>exact HC0_2.out);(case side5=>repeat (first | exact (Kd.C_below HR0_3.out HB.out) | (with_reducible refine cA_ ?_ _) | (with_reducible refine cN_ ?_ _) | (with_reducible refine cD_ ?_)));(case side6=>exact HC0_3.out);rintro e w50 ⟨rfl,hb⟩;have n0_:=aM_ (blk_below (g:=gb152) (o:=.cells #[.string a0_0,.slice A0_1 l0_1.length c0_1,.slice A0_2 l0_2.length c0_2,.slice A0_3 l0_3.length c0_3] 35 (0,0)) (by exact kZ_ BK152) hb);have n1_:=aM_ (bT_ (by exact bZ_ HB) hb);clear BK152;clear HB;have BK152:=n0_;have HB:=n1_;clear n0_ n1_;(try clear hb);(try clear hb2);(try clear hk);(try clear hi);have hcz51_0 : w50.cell? ⟨gb152,0,none⟩ = some (.string a0_0):=(kC_ BK152.out 0).trans rfl;have hcz51_1 : w50.cell? ⟨gb152,1,none⟩ = some (.slice A0_1 l0_1.length c0_1):=(kC_ BK152.out 1).trans rfl;have hcz51_2 : w50.cell? ⟨gb152,2,none⟩ = some (.slice A0_2 l0_2.length c0_2):=(kC_ BK152.out 2).trans rfl;have hcz51_3 : w50.cell? ⟨gb152,3,none⟩ = some (.slice A0_3 l0_3.length c0_3):=(kC_ BK152.out 3).trans rfl;have hfz51_0:=kF_ BK152.out 0;have hfz51_1:=kF_ BK152.out 1;have hfz51_2:=kF_ BK152.out 2;have hfz51_3:=kF_ BK152.out 3) | (go_at_call 62;(with_reducible refine (spec_l9Once.calls k a0_0 _ _ l0_1 _ _ l0_2 _ _ l0_3 false _ ?side1 ?side2 ?side3 ?side4 ?side5 ?side6 A6.out).mono ?_);(case side1=>repeat (first | exact (Kd.C_below HR0_1.out HB.out) | (with_reducible refine cA_ ?_ _) | (with_reducible refine cN_ ?_ _) | (with_reducible refine cD_ ?_)));(case side2=>exact HC0_1.out);(case side3=>repeat (first | exact (Kd.C_below HR0_2.out HB.out) | (with_reducible refine cA_ ?_ _) | (with_reducible refine cN_ ?_ _) | (with_reducible refine cD_ ?_)));(case side4=>exact HC0_2.out);(case side5=>repeat (first | exact (Kd.C_below HR0_3.out HB.out) | (with_reducible refine cA_ ?_ _) | (with_reducible refine cN_ ?_ _) | (with_reducible refine cD_ ?_)));(case side6=>exact HC0_3.out);rintro e w52 ⟨rfl,hb⟩;have n0_:=aM_ (blk_below (g:=gb152) (o:=.cells #[.string a0_0,.slice A0_1 l0_1.length c0_1,.slice A0_2 l0_2.length c0_2,.slice A0_3 l0_3.length c0_3] 35 (0,0)) (by exact kZ_ BK152) hb);have n1_:=aM_ (bT_ (by exact bZ_ HB) hb);clear BK152;clear HB;have BK152:=n0_;have HB:=n1_;clear n0_ n1_;(try clear hb);(try clear hb2);(try clear hk);(try clear hi)))
    repeat (go_quiet (first | ((with_reducible refine gate_dst (N:=1) rfl ?_);refine box_event ?hg (N:=1) ?hd (cs:=#[.string a0_0,.slice A0_1 l0_1.length c0_1,.slice A0_2 l0_2.length c0_2,.slice A0_3 l0_3.length c0_3]) (t:=35) ?hr ?_;(case hd=>rfl);(case hg=>rfl);(case hr=>first | (go_simp;done) | (go_simp;rfl));intro gb152 hg w46 hbox hb;have n0_:=aM_ (bT_ (by exact bZ_ HB) hb);have n1_:=aM_ (hbox);have n2_:=aM_ ((by rw [hg];exact (bS_ (by exact bZ_ HB)) : w.heap.size ≤ gb152));have n3_:=aM_ ((by rw [hg];exact (bS_ (by exact bZ_ HB)) : w.heap.size ≤ gb152));clear HB;have HB:=n0_;have BK152:=n1_;have GW152:=n2_;have GE152:=n3_;clear n0_ n1_ n2_ n3_;clear hb hbox hg;have hcz47_0 : w46.cell? ⟨gb152,0,none⟩ = some (.string a0_0):=(kC_ BK152.out 0).trans rfl;have hcz47_1 : w46.cell? ⟨gb152,1,none⟩ = some (.slice A0_1 l0_1.length c0_1):=(kC_ BK152.out 1).trans rfl;have hcz47_2 : w46.cell? ⟨gb152,2,none⟩ = some (.slice A0_2 l0_2.length c0_2):=(kC_ BK152.out 2).trans rfl;have hcz47_3 : w46.cell? ⟨gb152,3,none⟩ = some (.slice A0_3 l0_3.length c0_3):=(kC_ BK152.out 3).trans rfl;have hfz47_0:=kF_ BK152.out 0;have hfz47_1:=kF_ BK152.out 1;have hfz47_2:=kF_ BK152.out 2;have hfz47_3:=kF_ BK152.out 3) | (go_at_call 60;(with_reducible refine (spec_l9Names.calls k a0_0 _ _ l0_1 _ _ l0_2 _ _ l0_3 true _ ?side1 ?side2 ?side3 ?side4 ?side5 ?side6 A2.out).mono ?_);(case side1=>repeat (first | exact (Kd.C_below HR0_1.out HB.out) | (with_reducible refine cA_ ?_ _) | (with_reducible refine cN_ ?_ _) | (with_reducible refine cD_ ?_)));(case side2=>exact HC0_1.out);(case side3=>repeat (first | exact (Kd.C_below HR0_2.out HB.out) | (with_reducible refine cA_ ?_ _) | (with_reducible refine cN_ ?_ _) | (with_reducible refine cD_ ?_)));(case side4=>exact HC0_2.out);(case side5=>repeat (first | exact (Kd.C_below HR0_3.out HB.out) | (with_reducible refine cA_ ?_ _) | (with_reducible refine cN_ ?_ _) | (with_reducible refine cD_ ?_)));(case side6=>exact HC0_3.out);rintro e w48 ⟨rfl,hb⟩;have n0_:=aM_ (blk_below (g:=gb152) (o:=.cells #[.string a0_0,.slice A0_1 l0_1.length c0_1,.slice A0_2 l0_2.length c0_2,.slice A0_3 l0_3.length c0_3] 35 (0,0)) (by exact kZ_ BK152) hb);have n1_:=aM_ (bT_ (by exact bZ_ HB) hb);clear BK152;clear HB;have BK152:=n0_;have HB:=n1_;clear n0_ n1_;(try clear hb);(try clear hb2);(try clear hk);(try clear hi);have hcz49_0 : w48.cell? ⟨gb152,0,none⟩ = some (.string a0_0):=(kC_ BK152.out 0).trans rfl;have hcz49_1 : w48.cell? ⟨gb152,1,none⟩ = some (.slice A0_1 l0_1.length c0_1):=(kC_ BK152.out 1).trans rfl;have hcz49_2 : w48.cell? ⟨gb152,2,none⟩ = some (.slice A0_2 l0_2.length c0_2):=(kC_ BK152.out 2).trans rfl;have hcz49_3 : w48.cell? ⟨gb152,3,none⟩ = some (.slice A0_3 l0_3.length c0_3):=(kC_ BK152.out 3).trans rfl;have hfz49_0:=kF_ BK152.out 0;have hfz49_1:=kF_ BK152.out 1;have hfz49_2:=kF_ BK152.out 2;have hfz49_3:=kF_ BK152.out 3) | (go_at_call 61;(with_reducible refine (spec_l9Types.calls k a0_0 _ _ l0_1 _ _ l0_2 _ _ l0_3 true _ ?side1 ?side2 ?side3 ?side4 ?side5 ?side6 A4.out).mono ?_);(case side1=>repeat (first | exact (Kd.C_below HR0_1.out HB.out) | (with_reducible refine cA_ ?_ _) | (with_reducible refine cN_ ?_ _) | (with_reducible refine cD_ ?_)));(case side2=>exact HC0_1.out);(case side3=>repeat (first | exact (Kd.C_below HR0_2.out HB.out) | (with_reducible refine cA_ ?_ _) | (with_reducible refine cN_ ?_ _) | (with_reducible refine cD_ ?_)));(case side4=>exact HC0_2.out);(case side5=>repeat (first | exact (Kd.C_below HR0_3.out HB.out) | (with_reducible refine cA_ ?_ _) | (with_reducible refine cN_ ?_ _) | (with_reducible refine cD_ ?_)));(case side6=>exact HC0_3.out);rintro e w50 ⟨rfl,hb⟩;have n0_:=aM_ (blk_below (g:=gb152) (o:=.cells #[.string a0_0,.slice A0_1 l0_1.length c0_1,.slice A0_2 l0_2.length c0_2,.slice A0_3 l0_3.length c0_3] 35 (0,0)) (by exact kZ_ BK152) hb);have n1_:=aM_ (bT_ (by exact bZ_ HB) hb);clear BK152;clear HB;have BK152:=n0_;have HB:=n1_;clear n0_ n1_;(try clear hb);(try clear hb2);(try clear hk);(try clear hi);have hcz51_0 : w50.cell? ⟨gb152,0,none⟩ = some (.string a0_0):=(kC_ BK152.out 0).trans rfl;have hcz51_1 : w50.cell? ⟨gb152,1,none⟩ = some (.slice A0_1 l0_1.length c0_1):=(kC_ BK152.out 1).trans rfl;have hcz51_2 : w50.cell? ⟨gb152,2,none⟩ = some (.slice A0_2 l0_2.length c0_2):=(kC_ BK152.out 2).trans rfl;have hcz51_3 : w50.cell? ⟨gb152,3,none⟩ = some (.slice A0_3 l0_3.length c0_3):=(kC_ BK152.out 3).trans rfl;have hfz51_0:=kF_ BK152.out 0;have hfz51_1:=kF_ BK152.out 1;have hfz51_2:=kF_ BK152.out 2;have hfz51_3:=kF_ BK152.out 3) | (go_at_call 62;(with_reducible refine (spec_l9Once.calls k a0_0 _ _ l0_1 _ _ l0_2 _ _ l0_3 false _ ?side1 ?side2 ?side3 ?side4 ?side5 ?side6 A6.out).mono ?_);(case side1=>repeat (first | exact (Kd.C_below HR0_1.out HB.out) | (with_reducible refine cA_ ?_ _) | (with_reducible refine cN_ ?_ _) | (with_reducible refine cD_ ?_)));(case side2=>exact HC0_1.out);(case side3=>repeat (first | exact (Kd.C_below HR0_2.out HB.out) | (with_reducible refine cA_ ?_ _) | (with_reducible refine cN_ ?_ _) | (with_reducible refine cD_ ?_)));(case side4=>exact HC0_2.out);(case side5=>repeat (first | exact (Kd.C_below HR0_3.out HB.out) | (with_reducible refine cA_ ?_ _) | (with_reducible refine cN_ ?_ _) | (with_reducible refine cD_ ?_)));(case side6=>exact HC0_3.out);rintro e w52 ⟨rfl,hb⟩;have n0_:=aM_ (blk_below (g:=gb152) (o:=.cells #[.string a0_0,.slice A0_1 l0_1.length c0_1,.slice A0_2 l0_2.length c0_2,.slice A0_3 l0_3.length c0_3] 35 (0,0)) (by exact kZ_ BK152) hb);have n1_:=aM_ (bT_ (by exact bZ_ HB) hb);clear BK152;clear HB;have BK152:=n0_;have HB:=n1_;clear n0_ n1_;(try clear hb);(try clear hb2);(try clear hk);(try clear hi)));try go_wp2_with (first | ((with_reducible refine gate_dst (N:=1) rfl ?_);refine box_event ?hg (N:=1) ?hd (cs:=#[.string a0_0,.slice A0_1 l0_1.length c0_1,.slice A0_2 l0_2.length c0_2,.slice A0_3 l0_3.length c0_3]) (t:=35) ?hr ?_;(case hd=>rfl);(case hg=>rfl);(case hr=>first | (go_simp;done) | (go_simp;rfl));intro gb152 hg w46 hbox hb;have n0_:=aM_ (bT_ (by exact bZ_ HB) hb);have n1_:=aM_ (hbox);have n2_:=aM_ ((by rw [hg];exact (bS_ (by exact bZ_ HB)) : w.heap.size ≤ gb152));have n3_:=aM_ ((by rw [hg];exact (bS_ (by exact bZ_ HB)) : w.heap.size ≤ gb152));clear HB;have HB:=n0_;have BK152:=n1_;have GW152:=n2_;have GE152:=n3_;clear n0_ n1_ n2_ n3_;clear hb hbox hg;have hcz47_0 : w46.cell? ⟨gb152,0,none⟩ = some (.string a0_0):=(kC_ BK152.out 0).trans rfl;have hcz47_1 : w46.cell? ⟨gb152,1,none⟩ = some (.slice A0_1 l0_1.length c0_1):=(kC_ BK152.out 1).trans rfl;have hcz47_2 : w46.cell? ⟨gb152,2,none⟩ = some (.slice A0_2 l0_2.length c0_2):=(kC_ BK152.out 2).trans rfl;have hcz47_3 : w46.cell? ⟨gb152,3,none⟩ = some (.slice A0_3 l0_3.length c0_3):=(kC_ BK152.out 3).trans rfl;have hfz47_0:=kF_ BK152.out 0;have hfz47_1:=kF_ BK152.out 1;have hfz47_2:=kF_ BK152.out 2;have hfz47_3:=kF_ BK152.out 3) | (go_at_call 60;(with_reducible refine (spec_l9Names.calls k a0_0 _ _ l0_1 _ _ l0_2 _ _ l0_3 true _ ?side1 ?side2 ?side3 ?side4 ?side5 ?side6 A2.out).mono ?_);(case side1=>repeat (first | exact (Kd.C_below HR0_1.out HB.out) | (with_reducible refine cA_ ?_ _) | (with_reducible refine cN_ ?_ _) | (with_reducible refine cD_ ?_)));(case side2=>exact HC0_1.out);(case side3=>repeat (first | exact (Kd.C_below HR0_2.out HB.out) | (with_reducible refine cA_ ?_ _) | (with_reducible refine cN_ ?_ _) | (with_reducible refine cD_ ?_)));(case side4=>exact HC0_2.out);(case side5=>repeat (first | exact (Kd.C_below HR0_3.out HB.out) | (with_reducible refine cA_ ?_ _) | (with_reducible refine cN_ ?_ _) | (with_reducible refine cD_ ?_)));(case side6=>exact HC0_3.out);rintro e w48 ⟨rfl,hb⟩;have n0_:=aM_ (blk_below (g:=gb152) (o:=.cells #[.string a0_0,.slice A0_1 l0_1.length c0_1,.slice A0_2 l0_2.length c0_2,.slice A0_3 l0_3.length c0_3] 35 (0,0)) (by exact kZ_ BK152) hb);have n1_:=aM_ (bT_ (by exact bZ_ HB) hb);clear BK152;clear HB;have BK152:=n0_;have HB:=n1_;clear n0_ n1_;(try clear hb);(try clear hb2);(try clear hk);(try clear hi);have hcz49_0 : w48.cell? ⟨gb152,0,none⟩ = some (.string a0_0):=(kC_ BK152.out 0).trans rfl;have hcz49_1 : w48.cell? ⟨gb152,1,none⟩ = some (.slice A0_1 l0_1.length c0_1):=(kC_ BK152.out 1).trans rfl;have hcz49_2 : w48.cell? ⟨gb152,2,none⟩ = some (.slice A0_2 l0_2.length c0_2):=(kC_ BK152.out 2).trans rfl;have hcz49_3 : w48.cell? ⟨gb152,3,none⟩ = some (.slice A0_3 l0_3.length c0_3):=(kC_ BK152.out 3).trans rfl;have hfz49_0:=kF_ BK152.out 0;have hfz49_1:=kF_ BK152.out 1;have hfz49_2:=kF_ BK152.out 2;have hfz49_3:=kF_ BK152.out 3) | (go_at_call 61;(with_reducible refine (spec_l9Types.calls k a0_0 _ _ l0_1 _ _ l0_2 _ _ l0_3 true _ ?side1 ?side2 ?side3 ?side4 ?side5 ?side6 A4.out).mono ?_);(case side1=>repeat (first | exact (Kd.C_below HR0_1.out HB.out) | (with_reducible refine cA_ ?_ _) | (with_reducible refine cN_ ?_ _) | (with_reducible refine cD_ ?_)));(case side2=>exact HC0_1.out);(case side3=>repeat (first | exact (Kd.C_below HR0_2.out HB.out) | (with_reducible refine cA_ ?_ _) | (with_reducible refine cN_ ?_ _) | (with_reducible refine cD_ ?_)));(case side4=>exact HC0_2.out);(case side5=>repeat (first | exact (Kd.C_below HR0_3.out HB.out) | (with_reducible refine cA_ ?_ _) | (with_reducible refine cN_ ?_ _) | (with_reducible refine cD_ ?_)));(case side6=>exact HC0_3.out);rintro e w50 ⟨rfl,hb⟩;have n0_:=aM_ (blk_below (g:=gb152) (o:=.cells #[.string a0_0,.slice A0_1 l0_1.length c0_1,.slice A0_2 l0_2.length c0_2,.slice A0_3 l0_3.length c0_3] 35 (0,0)) (by exact kZ_ BK152) hb);have n1_:=aM_ (bT_ (by exact bZ_ HB) hb);clear BK152;clear HB;have BK152:=n0_;have HB:=n1_;clear n0_ n1_;(try clear hb);(try clear hb2);(try clear hk);(try clear hi);have hcz51_0 : w50.cell? ⟨gb152,0,none⟩ = some (.string a0_0):=(kC_ BK152.out 0).trans rfl;have hcz51_1 : w50.cell? ⟨gb152,1,none⟩ = some (.slice A0_1 l0_1.length c0_1):=(kC_ BK152.out 1).trans rfl;have hcz51_2 : w50.cell? ⟨gb152,2,none⟩ = some (.slice A0_2 l0_2.length c0_2):=(kC_ BK152.out 2).trans rfl;have hcz51_3 : w50.cell? ⟨gb152,3,none⟩ = some (.slice A0_3 l0_3.length c0_3):=(kC_ BK152.out 3).trans rfl;have hfz51_0:=kF_ BK152.out 0;have hfz51_1:=kF_ BK152.out 1;have hfz51_2:=kF_ BK152.out 2;have hfz51_3:=kF_ BK152.out 3) | (go_at_call 62;(with_reducible refine (spec_l9Once.calls k a0_0 _ _ l0_1 _ _ l0_2 _ _ l0_3 false _ ?side1 ?side2 ?side3 ?side4 ?side5 ?side6 A6.out).mono ?_);(case side1=>repeat (first | exact (Kd.C_below HR0_1.out HB.out) | (with_reducible refine cA_ ?_ _) | (with_reducible refine cN_ ?_ _) | (with_reducible refine cD_ ?_)));(case side2=>exact HC0_1.out);(case side3=>repeat (first | exact (Kd.C_below HR0_2.out HB.out) | (with_reducible refine cA_ ?_ _) | (with_reducible refine cN_ ?_ _) | (with_reducible refine cD_ ?_)));(case side4=>exact HC0_2.out);(case side5=>repeat (first | exact (Kd.C_below HR0_3.out HB.out) | (with_reducible refine cA_ ?_ _) | (with_reducible refine cN_ ?_ _) | (with_reducible refine cD_ ?_)));(case side6=>exact HC0_3.out);rintro e w52 ⟨rfl,hb⟩;have n0_:=aM_ (blk_below (g:=gb152) (o:=.cells #[.string a0_0,.slice A0_1 l0_1.length c0_1,.slice A0_2 l0_2.length c0_2,.slice A0_3 l0_3.length c0_3] 35 (0,0)) (by exact kZ_ BK152) hb);have n1_:=aM_ (bT_ (by exact bZ_ HB) hb);clear BK152;clear HB;have BK152:=n0_;have HB:=n1_;clear n0_ n1_;(try clear hb);(try clear hb2);(try clear hk);(try clear hi))))
    go_ret
    exact ⟨by first | rfl | (simp [errW_none,errW_some] <;> rfl) | (simp [*, errW_none,errW_some] <;> rfl),by exact bZ_ HB⟩
  ·replace c5:=Bool.eq_false_iff.mpr c5
   subst c5
   have H1 : (some 2) = some r:=by rw [if_neg (show ¬ (false = true) by decide)] at H;exact H
   clear H
   have H:=H1
   clear H1
   obtain rfl:=Option.some.inj H
   go_enter Tryd.func23,Tryd.ntmps23
   go_wp2_with (first | ((with_reducible refine gate_dst (N:=1) rfl ?_);refine box_event ?hg (N:=1) ?hd (cs:=#[.string a0_0,.slice A0_1 l0_1.length c0_1,.slice A0_2 l0_2.length c0_2,.slice A0_3 l0_3.length c0_3]) (t:=35) ?hr ?_;(case hd=>rfl);(case hg=>rfl);(case hr=>first | (go_simp;done) | (go_simp;rfl));intro gb152 hg w53 hbox hb;have n0_:=aM_ (bT_ (by exact bZ_ HB) hb);have n1_:=aM_ (hbox);have n2_:=aM_ ((by rw [hg];exact (bS_ (by exact bZ_ HB)) : w.heap.size ≤ gb152));have n3_:=aM_ ((by rw [hg];exact (bS_ (by exact bZ_ HB)) : w.heap.size ≤ gb152));clear HB;have HB:=n0_;have BK152:=n1_;have GW152:=n2_;have GE152:=n3_;clear n0_ n1_ n2_ n3_;clear hb hbox hg;have hcz54_0 : w53.cell? ⟨gb152,0,none⟩ = some (.string a0_0):=(kC_ BK152.out 0).trans rfl;have hcz54_1 : w53.cell? ⟨gb152,1,none⟩ = some (.slice A0_1 l0_1.length c0_1):=(kC_ BK152.out 1).trans rfl;have hcz54_2 : w53.cell? ⟨gb152,2,none⟩ = some (.slice A0_2 l0_2.length c0_2):=(kC_ BK152.out 2).trans rfl;have hcz54_3 : w53.cell? ⟨gb152,3,none⟩ = some (.slice A0_3 l0_3.length c0_3):=(kC_ BK152.out 3).trans rfl;have hfz54_0:=kF_ BK152.out 0;have hfz54_1:=kF_ BK152.out 1;have hfz54_2:=kF_ BK152.out 2;have hfz54_3:=kF_ BK152.out 3) | (go_at_call 60;(with_reducible refine (spec_l9Names.calls k a0_0 _ _ l0_1 _ _ l0_2 _ _ l0_3 true _ ?side1 ?side2 ?side3 ?side4 ?side5 ?side6 A2.out).mono ?_);(case side1=>repeat (first | exact (Kd.C_below HR0_1.out HB.out) | (with_reducible refine cA_ ?_ _) | (with_reducible refine cN_ ?_ _) | (with_reducible refine cD_ ?_)));(case side2=>exact HC0_1.out);(case side3=>repeat (first | exact (Kd.C_below HR0_2.out HB.out) | (with_reducible refine cA_ ?_ _) | (with_reducible refine cN_ ?_ _) | (with_reducible refine cD_ ?_)));(case side4=>exact HC0_2.out);(case side5=>repeat (first | exact (Kd.C_below HR0_3.out HB.out) | (with_reducible refine cA_ ?_ _) | (with_reducible refine cN_ ?_ _) | (with_reducible refine cD_ ?_)));(case side6=>exact HC0_3.out);rintro e w55 ⟨rfl,hb⟩;have n0_:=aM_ (blk_below (g:=gb152) (o:=.cells #[.string a0_0,.slice A0_1 l0_1.length c0_1,.slice A0_2 l0_2.length c0_2,.slice A0_3 l0_3.length c0_3] 35 (0,0)) (by exact kZ_ BK152) hb);have n1_:=aM_ (bT_ (by exact bZ_ HB) hb);clear BK152;clear HB;have BK152:=n0_;have HB:=n1_;clear n0_ n1_;(try clear hb);(try clear hb2);(try clear hk);(try clear hi);have hcz56_0 : w55.cell? ⟨gb152,0,none⟩ = some (.string a0_0):=(kC_ BK152.out 0).trans rfl;have hcz56_1 : w55.cell? ⟨gb152,1,none⟩ = some (.slice A0_1 l0_1.length c0_1):=(kC_ BK152.out 1).trans rfl;have hcz56_2 : w55.cell? ⟨gb152,2,none⟩ = some (.slice A0_2 l0_2.length c0_2):=(kC_ BK152.out 2).trans rfl;have hcz56_3 : w55.cell? ⟨gb152,3,none⟩ = some (.slice A0_3 l0_3.length c0_3):=(kC_ BK152.out 3).trans rfl;have hfz56_0:=kF_ BK152.out 0;have hfz56_1:=kF_ BK152.out 1;have hfz56_2:=kF_ BK152.out 2;have hfz56_3:=kF_ BK152.out 3) | (go_at_call 61;(with_reducible refine (spec_l9Types.calls k a0_0 _ _ l0_1 _ _ l0_2 _ _ l0_3 false _ ?side1 ?side2 ?side3 ?side4 ?side5 ?side6 A4.out).mono ?_);(case side1=>repeat (first | exact (Kd.C_below HR0_1.out HB.out) | (with_reducible refine cA_ ?_ _) | (with_reducible refine cN_ ?_ _) | (with_reducible refine cD_ ?_)));(case side2=>exact HC0_1.out);(case side3=>repeat (first | exact (Kd.C_below HR0_2.out HB.out) | (with_reducible refine cA_ ?_ _) | (with_reducible refine cN_ ?_ _) | (with_reducible refine cD_ ?_)));(case side4=>exact HC0_2.out);(case side5=>repeat (first | exact (Kd.C_below HR0_3.out HB.out) | (with_reducible refine cA_ ?_ _) | (with_reducible refine cN_ ?_ _) | (with_reducible refine cD_ ?_)));(case side6=>exact HC0_3.out);rintro e w57 ⟨rfl,hb⟩;have n0_:=aM_ (blk_below (g:=gb152) (o:=.cells #[.string a0_0,.slice A0_1 l0_1.length c0_1,.slice A0_2 l0_2.length c0_2,.slice A0_3 l0_3.length c0_3] 35 (0,0)) (by exact kZ_ BK152) hb);have n1_:=aM_ (bT_ (by exact bZ_ HB) hb);clear BK152;clear HB;have BK152:=n0_;have HB:=n1_;clear n0_ n1_;(try clear hb);(try clear hb2);(try clear hk);(try clear hi)))
   repeat (go_quiet (first | ((with_reducible refine gate_dst (N:=1) rfl ?_);refine box_event ?hg (N:=1) ?hd (cs:=#[.string a0_0,.slice A0_1 l0_1.length c0_1,.slice A0_2 l0_2.length c0_2,.slice A0_3 l0_3.length c0_3]) (t:=35) ?hr ?_;(case hd=>rfl);(case hg=>rfl);(case hr=>first | (go_simp;done) | (go_simp;rfl));intro gb152 hg w53 hbox hb;have n0_:=aM_ (bT_ (by exact bZ_ HB) hb);have n1_:=aM_ (hbox);have n2_:=aM_ ((by rw [hg];exact (bS_ (by exact bZ_ HB)) : w.heap.size ≤ gb152));have n3_:=aM_ ((by rw [hg];exact (bS_ (by exact bZ_ HB)) : w.heap.size ≤ gb152));clear HB;have HB:=n0_;have BK152:=n1_;have GW152:=n2_;have GE152:=n3_;clear n0_ n1_ n2_ n3_;clear hb hbox hg;have hcz54_0 : w53.cell? ⟨gb152,0,none⟩ = some (.string a0_0):=(kC_ BK152.out 0).trans rfl;have hcz54_1 : w53.cell? ⟨gb152,1,none⟩ = some (.slice A0_1 l0_1.length c0_1):=(kC_ BK152.out 1).trans rfl;have hcz54_2 : w53.cell? ⟨gb152,2,none⟩ = some (.slice A0_2 l0_2.length c0_2):=(kC_ BK152.out 2).trans rfl;have hcz54_3 : w53.cell? ⟨gb152,3,none⟩ = some (.slice A0_3 l0_3.length c0_3):=(kC_ BK152.out 3).trans rfl;have hfz54_0:=kF_ BK152.out 0;have hfz54_1:=kF_ BK152.out 1;have hfz54_2:=kF_ BK152.out 2;have hfz54_3:=kF_ BK152.out 3) | (go_at_call 60;(with_reducible refine (spec_l9Names.calls k a0_0 _ _ l0_1 _ _ l0_2 _ _ l0_3 true _ ?side1 ?side2 ?side3 ?side4 ?side5 ?side6 A2.out).mono ?_);(case side1=>repeat (first | exact (Kd.C_below HR0_1.out HB.out) | (with_reducible refine cA_ ?_ _) | (with_reducible refine cN_ ?_ _) | (with_reducible refine cD_ ?_)));(case side2=>exact HC0_1.out);(case side3=>repeat (first | exact (Kd.C_below HR0_2.out HB.out) | (with_reducible refine cA_ ?_ _) | (with_reducible refine cN_ ?_ _) | (with_reducible refine cD_ ?_)));(case side4=>exact HC0_2.out);(case side5=>repeat (first | exact (Kd.C_below HR0_3.out HB.out) | (with_reducible refine cA_ ?_ _) | (with_reducible refine cN_ ?_ _) | (with_reducible refine cD_ ?_)));(case side6=>exact HC0_3.out);rintro e w55 ⟨rfl,hb⟩;have n0_:=aM_ (blk_below (g:=gb152) (o:=.cells #[.string a0_0,.slice A0_1 l0_1.length c0_1,.slice A0_2 l0_2.length c0_2,.slice A0_3 l0_3.length c0_3] 35 (0,0)) (by exact kZ_ BK152) hb);have n1_:=aM_ (bT_ (by exact bZ_ HB) hb);clear BK152;clear HB;have BK152:=n0_;have HB:=n1_;clear n0_ n1_;(try clear hb);(try clear hb2);(try clear hk);(try clear hi);have hcz56_0 : w55.cell? ⟨gb152,0,none⟩ = some (.string a0_0):=(kC_ BK152.out 0).trans rfl;have hcz56_1 : w55.cell? ⟨gb152,1,none⟩ = some (.slice A0_1 l0_1.length c0_1):=(kC_ BK152.out 1).trans rfl;have hcz56_2 : w55.cell? ⟨gb152,2,none⟩ = some (.slice A0_2 l0_2.length c0_2):=(kC_ BK152.out 2).trans rfl;have hcz56_3 : w55.cell? ⟨gb152,3,none⟩ = some (.slice A0_3 l0_3.length c0_3):=(kC_ BK152.out 3).trans rfl;have hfz56_0:=kF_ BK152.out 0;have hfz56_1:=kF_ BK152.out 1;have hfz56_2:=kF_ BK152.out 2;have hfz56_3:=kF_ BK152.out 3) | (go_at_call 61;(with_reducible refine (spec_l9Types.calls k a0_0 _ _ l0_1 _ _ l0_2 _ _ l0_3 false _ ?side1 ?side2 ?side3 ?side4 ?side5 ?side6 A4.out).mono ?_);(case side1=>repeat (first | exact (Kd.C_below HR0_1.out HB.out) | (with_reducible refine cA_ ?_ _) | (with_reducible refine cN_ ?_ _) | (with_reducible refine cD_ ?_)));(case side2=>exact HC0_1.out);(case side3=>repeat (first | exact (Kd.C_below HR0_2.out HB.out) | (with_reducible refine cA_ ?_ _) | (with_reducible refine cN_ ?_ _) | (with_reducible refine cD_ ?_)));(case side4=>exact HC0_2.out);(case side5=>repeat (first | exact (Kd.C_below HR0_3.out HB.out) | (with_reducible refine cA_ ?_ _) | (with_reducible refine cN_ ?_ _) | (with_reducible refine cD_ ?_)));(case side6=>exact HC0_3.out);rintro e w57 ⟨rfl,hb⟩;have n0_:=aM_ (blk_below (g:=gb152) (o:=.cells #[.string a0_0,.slice A0_1 l0_1.length c0_1,.slice A0_2 l0_2.length c0_2,.slice A0_3 l0_3.length c0_3] 35 (0,0)) (by exact kZ_ BK152) hb);have n1_:=aM_ (bT_ (by exact bZ_ HB) hb);clear BK152;clear HB;have BK152:=n0_;have HB:=n1_;clear n0_ n1_;(try clear hb);(try clear hb2);(try clear hk);(try clear hi)));try go_wp2_with (first | ((with_reducible refine gate_dst (N:=1) rfl ?_);refine box_event ?hg (N:=1) ?hd (cs:=#[.string a0_0,.slice A0_1 l0_1.length c0_1,.slice A0_2 l0_2.length c0_2,.slice A0_3 l0_3.length c0_3]) (t:=35) ?hr ?_;(case hd=>rfl);(case hg=>rfl);(case hr=>first | (go_simp;done) | (go_simp;rfl));intro gb152 hg w53 hbox hb;have n0_:=aM_ (bT_ (by exact bZ_ HB) hb);have n1_:=aM_ (hbox);have n2_:=aM_ ((by rw [hg];exact (bS_ (by exact bZ_ HB)) : w.heap.size ≤ gb152));have n3_:=aM_ ((by rw [hg];exact (bS_ (by exact bZ_ HB)) : w.heap.size ≤ gb152));clear HB;have HB:=n0_;have BK152:=n1_;have GW152:=n2_;have GE152:=n3_;clear n0_ n1_ n2_ n3_;clear hb hbox hg;have hcz54_0 : w53.cell? ⟨gb152,0,none⟩ = some (.string a0_0):=(kC_ BK152.out 0).trans rfl;have hcz54_1 : w53.cell? ⟨gb152,1,none⟩ = some (.slice A0_1 l0_1.length c0_1):=(kC_ BK152.out 1).trans rfl;have hcz54_2 : w53.cell? ⟨gb152,2,none⟩ = some (.slice A0_2 l0_2.length c0_2):=(kC_ BK152.out 2).trans rfl;have hcz54_3 : w53.cell? ⟨gb152,3,none⟩ = some (.slice A0_3 l0_3.length c0_3):=(kC_ BK152.out 3).trans rfl;have hfz54_0:=kF_ BK152.out 0;have hfz54_1:=kF_ BK152.out 1;have hfz54_2:=kF_ BK152.out 2;have hfz54_3:=kF_ BK152.out 3) | (go_at_call 60;(with_reducible refine (spec_l9Names.calls k a0_0 _ _ l0_1 _ _ l0_2 _ _ l0_3 true _ ?side1 ?side2 ?side3 ?side4 ?side5 ?side6 A2.out).mono ?_);(case side1=>repeat (first | exact (Kd.C_below HR0_1.out HB.out) | (with_reducible refine cA_ ?_ _) | (with_reducible refine cN_ ?_ _) | (with_reducible refine cD_ ?_)));(case side2=>exact HC0_1.out);(case side3=>repeat (first | exact (Kd.C_below HR0_2.out HB.out) | (with_reducible refine cA_ ?_ _) | (with_reducible refine cN_ ?_ _) | (with_reducible refine cD_ ?_)));(case side4=>exact HC0_2.out);(case side5=>repeat (first | exact (Kd.C_below HR0_3.out HB.out) | (with_reducible refine cA_ ?_ _) | (with_reducible refine cN_ ?_ _) | (with_reducible refine cD_ ?_)));(case side6=>exact HC0_3.out);rintro e w55 ⟨rfl,hb⟩;have n0_:=aM_ (blk_below (g:=gb152) (o:=.cells #[.string a0_0,.slice A0_1 l0_1.length c0_1,.slice A0_2 l0_2.length c0_2,.slice A0_3 l0_3.length c0_3] 35 (0,0)) (by exact kZ_ BK152) hb);have n1_:=aM_ (bT_ (by exact bZ_ HB) hb);clear BK152;clear HB;have BK152:=n0_;have HB:=n1_;clear n0_ n1_;(try clear hb);(try clear hb2);(try clear hk);(try clear hi);have hcz56_0 : w55.cell? ⟨gb152,0,none⟩ = some (.string a0_0):=(kC_ BK152.out 0).trans rfl;have hcz56_1 : w55.cell? ⟨gb152,1,none⟩ = some (.slice A0_1 l0_1.length c0_1):=(kC_ BK152.out 1).trans rfl;have hcz56_2 : w55.cell? ⟨gb152,2,none⟩ = some (.slice A0_2 l0_2.length c0_2):=(kC_ BK152.out 2).trans rfl;have hcz56_3 : w55.cell? ⟨gb152,3,none⟩ = some (.slice A0_3 l0_3.length c0_3):=(kC_ BK152.out 3).trans rfl;have hfz56_0:=kF_ BK152.out 0;have hfz56_1:=kF_ BK152.out 1;have hfz56_2:=kF_ BK152.out 2;have hfz56_3:=kF_ BK152.out 3) | (go_at_call 61;(with_reducible refine (spec_l9Types.calls k a0_0 _ _ l0_1 _ _ l0_2 _ _ l0_3 false _ ?side1 ?side2 ?side3 ?side4 ?side5 ?side6 A4.out).mono ?_);(case side1=>repeat (first | exact (Kd.C_below HR0_1.out HB.out) | (with_reducible refine cA_ ?_ _) | (with_reducible refine cN_ ?_ _) | (with_reducible refine cD_ ?_)));(case side2=>exact HC0_1.out);(case side3=>repeat (first | exact (Kd.C_below HR0_2.out HB.out) | (with_reducible refine cA_ ?_ _) | (with_reducible refine cN_ ?_ _) | (with_reducible refine cD_ ?_)));(case side4=>exact HC0_2.out);(case side5=>repeat (first | exact (Kd.C_below HR0_3.out HB.out) | (with_reducible refine cA_ ?_ _) | (with_reducible refine cN_ ?_ _) | (with_reducible refine cD_ ?_)));(case side6=>exact HC0_3.out);rintro e w57 ⟨rfl,hb⟩;have n0_:=aM_ (blk_below (g:=gb152) (o:=.cells #[.string a0_0,.slice A0_1 l0_1.length c0_1,.slice A0_2 l0_2.length c0_2,.slice A0_3 l0_3.length c0_3] 35 (0,0)) (by exact kZ_ BK152) hb);have n1_:=aM_ (bT_ (by exact bZ_ HB) hb);clear BK152;clear HB;have BK152:=n0_;have HB:=n1_;clear n0_ n1_;(try clear hb);(try clear hb2);(try clear hk);(try clear hi))))
   go_ret
   exact ⟨by first | rfl | (simp [errW_none,errW_some] <;> rfl) | (simp [*, errW_none,errW_some] <;> rfl),by exact bZ_ HB⟩
 ·replace c3:=Bool.eq_false_iff.mpr c3
  subst c3
  have H1 : (some 1) = some r:=by rw [if_neg (show ¬ (false = true) by decide)] at H;exact H
  clear H
  have H:=H1
  clear H1
  obtain rfl:=Option.some.inj H
  go_enter Tryd.func23,Tryd.ntmps23
  go_wp2_with (first | ((with_reducible refine gate_dst (N:=1) rfl ?_);refine box_event ?hg (N:=1) ?hd (cs:=#[.string a0_0,.slice A0_1 l0_1.length c0_1,.slice A0_2 l0_2.length c0_2,.slice A0_3 l0_3.length c0_3]) (t:=35) ?hr ?_;(case hd=>rfl);(case hg=>rfl);(case hr=>first | (go_simp;done) | (go_simp;rfl));intro gb152 hg w58 hbox hb;have n0_:=aM_ (bT_ (by exact bZ_ HB) hb);have n1_:=aM_ (hbox);have n2_:=aM_ ((by rw [hg];exact (bS_ (by exact bZ_ HB)) : w.heap.size ≤ gb152));have n3_:=aM_ ((by rw [hg];exact (bS_ (by exact bZ_ HB)) : w.heap.size ≤ gb152));clear HB;have HB:=n0_;have BK152:=n1_;have GW152:=n2_;have GE152:=n3_;clear n0_ n1_ n2_ n3_;clear hb hbox hg;have hcz59_0 : w58.cell? ⟨gb152,0,none⟩ = some (.string a0_0):=(kC_ BK152.out 0).trans rfl;have hcz59_1 : w58.cell? ⟨gb152,1,none⟩ = some (.slice A0_1 l0_1.length c0_1):=(kC_ BK152.out 1).trans rfl;have hcz59_2 : w58.cell? ⟨gb152,2,none⟩ = some (.slice A0_2 l0_2.length c0_2):=(kC_ BK152.out 2).trans rfl;have hcz59_3 : w58.cell? ⟨gb152,3,none⟩ = some (.slice A0_3 l0_3.length c0_3):=(kC_ BK152.out 3).trans rfl;have hfz59_0:=kF_ BK152.out 0;have hfz59_1:=kF_ BK152.out 1;have hfz59_2:=kF_ BK152.out 2;have hfz59_3:=kF_ BK152.out 3) | (go_at_call 60;(with_reducible refine (spec_l9Names.calls k a0_0 _ _ l0_1 _ _ l0_2 _ _ l0_3 false _ ?side1 ?side2 ?side3 ?side4 ?side5 ?side6 A2.out).mono ?_);(case side1=>repeat (first | exact (Kd.C_below HR0_1.out HB.out) | (with_reducible refine cA_ ?_ _) | (with_reducible refine cN_ ?_ _) | (with_reducible refine cD_ ?_)));(case side2=>exact HC0_1.out);(case side3=>repeat (first | exact (Kd.C_below HR0_2.out HB.out) | (with_reducible refine cA_ ?_ _) | (with_reducible refine cN_ ?_ _) | (with_reducible refine cD_ ?_)));(case side4=>exact HC0_2.out);(case side5=>repeat (first | exact (Kd.C_below HR0_3.out HB.out) | (with_reducible refine cA_ ?_ _) | (with_reducible refine cN_ ?_ _) | (with_reducible refine cD_ ?_)));(case side6=>exact HC0_3.out);rintro e w60 ⟨rfl,hb⟩;have n0_:=aM_ (blk_below (g:=gb152) (o:=.cells #[.string a0_0,.slice A0_1 l0_1.length c0_1,.slice A0_2 l0_2.length c0_2,.slice A0_3 l0_3.length c0_3] 35 (0,0)) (by exact kZ_ BK152) hb);have n1_:=aM_ (bT_ (by exact bZ_ HB) hb);clear BK152;clear HB;have BK152:=n0_;have HB:=n1_;clear n0_ n1_;(try clear hb);(try clear hb2);(try clear hk);(try clear hi)))
  repeat (go_quiet (first | ((with_reducible refine gate_dst (N:=1) rfl ?_);refine box_event ?hg (N:=1) ?hd (cs:=#[.string a0_0,.slice A0_1 l0_1.length c0_1,.slice A0_2 l0_2.length c0_2,.slice A0_3 l0_3.length c0_3]) (t:=35) ?hr ?_;(case hd=>rfl);(case hg=>rfl);(case hr=>first | (go_simp;done) | (go_simp;rfl));intro gb152 hg w58 hbox hb;have n0_:=aM_ (bT_ (by exact bZ_ HB) hb);have n1_:=aM_ (hbox);have n2_:=aM_ ((by rw [hg];exact (bS_ (by exact bZ_ HB)) : w.heap.size ≤ gb152));have n3_:=aM_ ((by rw [hg];exact (bS_ (by exact bZ_ HB)) : w.heap.size ≤ gb152));clear HB;have HB:=n0_;have BK152:=n1_;have GW152:=n2_;have GE152:=n3_;clear n0_ n1_ n2_ n3_;clear hb hbox hg;have hcz59_0 : w58.cell? ⟨gb152,0,none⟩ = some (.string a0_0):=(kC_ BK152.out 0).trans rfl;have hcz59_1 : w58.cell? ⟨gb152,1,none⟩ = some (.slice A0_1 l0_1.length c0_1):=(kC_ BK152.out 1).trans rfl;have hcz59_2 : w58.cell? ⟨gb152,2,none⟩ = some (.slice A0_2 l0_2.length c0_2):=(kC_ BK152.out 2).trans rfl;have hcz59_3 : w58.cell? ⟨gb152,3,none⟩ = some (.slice A0_3 l0_3.length c0_3):=(kC_ BK152.out 3).trans rfl;have hfz59_0:=kF_ BK152.out 0;have hfz59_1:=kF_ BK152.out 1;have hfz59_2:=kF_ BK152.out 2;have hfz59_3:=kF_ BK152.out 3) | (go_at_call 60;(with_reducible refine (spec_l9Names.calls k a0_0 _ _ l0_1 _ _ l0_2 _ _ l0_3 false _ ?side1 ?side2 ?side3 ?side4 ?side5 ?side6 A2.out).mono ?_);(case side1=>repeat (first | exact (Kd.C_below HR0_1.out HB.out) | (with_reducible refine cA_ ?_ _) | (with_reducible refine cN_ ?_ _) | (with_reducible refine cD_ ?_)));(case side2=>exact HC0_1.out);(case side3=>repeat (first | exact (Kd.C_below HR0_2.out HB.out) | (with_reducible refine cA_ ?_ _) | (with_reducible refine cN_ ?_ _) | (with_reducible refine cD_ ?_)));(case side4=>exact HC0_2.out);(case side5=>repeat (first | exact (Kd.C_below HR0_3.out HB.out) | (with_reducible refine cA_ ?_ _) | (with_reducible refine cN_ ?_ _) | (with_reducible refine cD_ ?_)));(case side6=>exact HC0_3.out);rintro e w60 ⟨rfl,hb⟩;have n0_:=aM_ (blk_below (g:=gb152) (o:=.cells #[.string a0_0,.slice A0_1 l0_1.length c0_1,.slice A0_2 l0_2.length c0_2,.slice A0_3 l0_3.length c0_3] 35 (0,0)) (by exact kZ_ BK152) hb);have n1_:=aM_ (bT_ (by exact bZ_ HB) hb);clear BK152;clear HB;have BK152:=n0_;have HB:=n1_;clear n0_ n1_;(try clear hb);(try clear hb2);(try clear hk);(try clear hi)));try go_wp2_with (first | ((with_reducible refine gate_dst (N:=1) rfl ?_);refine box_event ?hg (N:=1) ?hd (cs:=#[.string a0_0,.slice A0_1 l0_1.length c0_1,.slice A0_2 l0_2.length c0_2,.slice A0_3 l0_3.length c0_3]) (t:=35) ?hr ?_;(case hd=>rfl);(case hg=>rfl);(case hr=>first | (go_simp;done) | (go_simp;rfl));intro gb152 hg w58 hbox hb;have n0_:=aM_ (bT_ (by exact bZ_ HB) hb);have n1_:=aM_ (hbox);have n2_:=aM_ ((by rw [hg];exact (bS_ (by exact bZ_ HB)) : w.heap.size ≤ gb152));have n3_:=aM_ ((by rw [hg];exact (bS_ (by exact bZ_ HB)) : w.heap.size ≤ gb152));clear HB;have HB:=n0_;have BK152:=n1_;have GW152:=n2_;have GE152:=n3_;clear n0_ n1_ n2_ n3_;clear hb hbox hg;have hcz59_0 : w58.cell? ⟨gb152,0,none⟩ = some (.string a0_0):=(kC_ BK152.out 0).trans rfl;have hcz59_1 : w58.cell? ⟨gb152,1,none⟩ = some (.slice A0_1 l0_1.length c0_1):=(kC_ BK152.out 1).trans rfl;have hcz59_2 : w58.cell? ⟨gb152,2,none⟩ = some (.slice A0_2 l0_2.length c0_2):=(kC_ BK152.out 2).trans rfl;have hcz59_3 : w58.cell? ⟨gb152,3,none⟩ = some (.slice A0_3 l0_3.length c0_3):=(kC_ BK152.out 3).trans rfl;have hfz59_0:=kF_ BK152.out 0;have hfz59_1:=kF_ BK152.out 1;have hfz59_2:=kF_ BK152.out 2;have hfz59_3:=kF_ BK152.out 3) | (go_at_call 60;(with_reducible refine (spec_l9Names.calls k a0_0 _ _ l0_1 _ _ l0_2 _ _ l0_3 false _ ?side1 ?side2 ?side3 ?side4 ?side5 ?side6 A2.out).mono ?_);(case side1=>repeat (first | exact (Kd.C_below HR0_1.out HB.out) | (with_reducible refine cA_ ?_ _) | (with_reducible refine cN_ ?_ _) | (with_reducible refine cD_ ?_)));(case side2=>exact HC0_1.out);(case side3=>repeat (first | exact (Kd.C_below HR0_2.out HB.out) | (with_reducible refine cA_ ?_ _) | (with_reducible refine cN_ ?_ _) | (with_reducible refine cD_ ?_)));(case side4=>exact HC0_2.out);(case side5=>repeat (first | exact (Kd.C_below HR0_3.out HB.out) | (with_reducible refine cA_ ?_ _) | (with_reducible refine cN_ ?_ _) | (with_reducible refine cD_ ?_)));(case side6=>exact HC0_3.out);rintro e w60 ⟨rfl,hb⟩;have n0_:=aM_ (blk_below (g:=gb152) (o:=.cells #[.string a0_0,.slice A0_1 l0_1.length c0_1,.slice A0_2 l0_2.length c0_2,.slice A0_3 l0_3.length c0_3] 35 (0,0)) (by exact kZ_ BK152) hb);have n1_:=aM_ (bT_ (by exact bZ_ HB) hb);clear BK152;clear HB;have BK152:=n0_;have HB:=n1_;clear n0_ n1_;(try clear hb);(try clear hb2);(try clear hk);(try clear hi))))
  go_ret
  exact ⟨by first | rfl | (simp [errW_none,errW_some] <;> rfl) | (simp [*, errW_none,errW_some] <;> rfl),by exact bZ_ HB⟩
mutual
def spec_FirstBad.l0 : Nat → List (S35) → Int → Option (Int)
 | 0,_,_=>none
 | k + 1,x0,x3=>if x3 < (x0.length : Int) then (if 0 ≤ x3 then ((spec_CheckDef.f k ((rd_T35 x0 x3).f0) ((rd_T35 x0 x3).f1) ((rd_T35 x0 x3).f2) ((rd_T35 x0 x3).f3)).bind fun t160=>(if t160 = 0 then (spec_FirstBad.j1 k x0 x3 (decide (x3 > 2))) else (spec_FirstBad.j1 k x0 x3 true))) else (none)) else (some (-1))
def spec_FirstBad.j1 : Nat → List (S35) → Int → Bool → Option (Int)
 | 0,_,_,_=>none
 | k + 1,x0,x3,x20=>if x20 = true then (some x3) else (spec_FirstBad.l1 k x0 x3 0)
def spec_FirstBad.l1 : Nat → List (S35) → Int → Int → Option (Int)
 | 0,_,_,_=>none
 | k + 1,x0,x3,x4=>if x4 < x3 then (if 0 ≤ x4 then (if x4 < (x0.length : Int) then (if 0 ≤ x3 then (if x3 < (x0.length : Int) then (if ((rd_T35 x0 x4).f0).toList = ((rd_T35 x0 x3).f0).toList then (some x3) else (spec_FirstBad.l1 k x0 x3 (wrap64 (x4 + 1)))) else (none)) else (none)) else (none)) else (none)) else (spec_FirstBad.l0 k x0 (wrap64 (x3 + 1)))
end
def spec_FirstBad.f (k : Nat) (l0 : List (S35)) : Option (Int):=spec_FirstBad.l0 k l0 0
theorem spec_FirstBad.mono_l : ∀ k,(∀ y0 y1,LeO (spec_FirstBad.l0 k y0 y1) (spec_FirstBad.l0 (k + 1) y0 y1)) ∧ (∀ y0 y1 y2,LeO (spec_FirstBad.j1 k y0 y1 y2) (spec_FirstBad.j1 (k + 1) y0 y1 y2)) ∧ (∀ y0 y1 y2,LeO (spec_FirstBad.l1 k y0 y1 y2) (spec_FirstBad.l1 (k + 1) y0 y1 y2))
 | 0=>⟨fun _ _ r h=>by simp [spec_FirstBad.l0] at h,fun _ _ _ r h=>by simp [spec_FirstBad.j1] at h,fun _ _ _ r h=>by simp [spec_FirstBad.l1] at h⟩
 | k + 1=>by
  obtain ⟨ih0,ih1,ih2⟩:=spec_FirstBad.mono_l k
  refine ⟨?_,?_,?_⟩
  ·intro y0 y1
   unfold spec_FirstBad.l0
   repeat' first
   | (with_reducible exact ih0 _ _)
   | (with_reducible exact ih1 _ _ _)
   | (with_reducible exact ih2 _ _ _)
   | (with_reducible exact spec_CheckDef.mono _ _ _ _ _)
   | (with_reducible exact LeO.refl _)
   | (with_reducible exact LeO.none _)
   | (with_reducible refine LeO.ite ?_ ?_)
   | (with_reducible refine LeO.bind ?_ (fun _=>?_))
   | exact ih0 _ _
   | exact ih1 _ _ _
   | exact ih2 _ _ _
   | exact spec_CheckDef.mono _ _ _ _ _
   | exact LeO.none _
   | refine LeO.ite ?_ ?_
   | refine LeO.bind ?_ (fun _=>?_)
  ·intro y0 y1 y2
   unfold spec_FirstBad.j1
   repeat' first
   | (with_reducible exact ih0 _ _)
   | (with_reducible exact ih1 _ _ _)
   | (with_reducible exact ih2 _ _ _)
   | (with_reducible exact spec_CheckDef.mono _ _ _ _ _)
   | (with_reducible exact LeO.refl _)
   | (with_reducible exact LeO.none _)
   | (with_reducible refine LeO.ite ?_ ?_)
   | (with_reducible refine LeO.bind ?_ (fun _=>?_))
   | exact ih0 _ _
   | exact ih1 _ _ _
   | exact ih2 _ _ _
   | exact spec_CheckDef.mono _ _ _ _ _
   | exact LeO.none _
   | refine LeO.ite ?_ ?_
   | refine LeO.bind ?_ (fun _=>?_)
  ·intro y0 y1 y2
   unfold spec_FirstBad.l1
   repeat' first
   | (with_reducible exact ih0 _ _)
   | (with_reducible exact ih1 _ _ _)
   | (with_reducible exact ih2 _ _ _)
   | (with_reducible exact spec_CheckDef.mono _ _ _ _ _)
   | (with_reducible exact LeO.refl _)
   | (with_reducible exact LeO.none _)
   | (with_reducible refine LeO.ite ?_ ?_)
   | (with_reducible refine LeO.bind ?_ (fun _=>?_))
   | exact ih0 _ _
   | exact ih1 _ _ _
   | exact ih2 _ _ _
   | exact spec_CheckDef.mono _ _ _ _ _
   | exact LeO.none _
   | refine LeO.ite ?_ ?_
   | refine LeO.bind ?_ (fun _=>?_)
theorem spec_FirstBad.mono : ∀ a0 k,LeO (spec_FirstBad.f k a0) (spec_FirstBad.f (k + 1) a0):=by
 intro a0 k
 obtain ⟨ih0,ih1,ih2⟩:=spec_FirstBad.mono_l k
 unfold spec_FirstBad.f
 repeat' first
   | (with_reducible exact ih0 _ _)
   | (with_reducible exact ih1 _ _ _)
   | (with_reducible exact ih2 _ _ _)
   | (with_reducible exact spec_CheckDef.mono _ _ _ _ _)
   | (with_reducible exact LeO.refl _)
   | (with_reducible exact LeO.none _)
   | (with_reducible refine LeO.ite ?_ ?_)
   | (with_reducible refine LeO.bind ?_ (fun _=>?_))
   | exact ih0 _ _
   | exact ih1 _ _ _
   | exact ih2 _ _ _
   | exact spec_CheckDef.mono _ _ _ _ _
   | exact LeO.none _
   | refine LeO.ite ?_ ?_
   | refine LeO.bind ?_ (fun _=>?_)
set_option maxHeartbeats 8000000 in
set_option maxRecDepth 100000 in
theorem spec_FirstBad.calls (k : Nat) (A0 : Option Addr) (c0 : Nat) (l0 : List (S35)) (r : Int) (w : World) (hr0 : Kd.C k35 w A0 l0.length l0) (hc0 : l0.length ≤ c0) (h : spec_FirstBad.f k l0 = some r) :
  Calls Tryd.prog 15 #[.slice A0 l0.length c0] w fun e w'=>e = .returned (.int .i64 r) ∧ Below w.heap.size w w':=by
 have hu35:=Tryd.underlying35
 have HR0:=aM_ hr0
 have HC0:=aM_ hc0
 clear hr0 hc0
 have HB:=aM_ (Below.refl w.heap.size w)
 have H : (spec_FirstBad.l0 k l0 0) = some r:=h
 clear h
 have H':=aM_ H
 clear H
 go_enter Tryd.func15,Tryd.ntmps15
 go_wp2
 repeat (go_quiet (fail);try go_wp2)
 (try simp only [Act.put,sI_,sS_,sZ_])
 go_loopg [3] k (fun kq v3 w'=>∃ (x3_1 : Int),v3 = .int .i64 x3_1 ∧ Aside0 (spec_FirstBad.l0 kq l0 x3_1 = some r) ∧ Aside0 (kq ≤ k) ∧ Aside0 (Below w.heap.size w w'))
 case atStart=>exact ⟨(0),(by first | rfl | (simp;done) | (simp [*];done)),H', ⟨Nat.le_refl _⟩,⟨by exact bZ_ HB⟩⟩
 case round =>
  clear H'
  try clear c1
  obtain ⟨x3_1,rfl,HA,HK1,HB⟩:=hrel
  cases gk with
  | zero=>exact absurd HA.out (by simp [spec_FirstBad.l0])
  | succ k1 =>
   have H:=HA.out
   clear HA
   simp only [spec_FirstBad.l0] at H
   by_cases c2 : x3_1 < (l0.length : Int)
   ·rw [if_pos c2] at H
    have c2b0 : decide (x3_1 < (l0.length : Int)) = true:=decide_eq_true c2
    clear c2
    have HC3:=aM_ H
    clear H
    go_upto_region 4 with (fail)
    repeat (go_quiet (fail);go_upto_region 4 with (fail))
    go_cut [20] (fun v20 wc=>∃ (kq : Nat) (x20_2 : Bool),v20 = .bool x20_2 ∧ Aside0 (spec_FirstBad.j1 kq l0 x3_1 x20_2 = some r) ∧ Aside0 (kq ≤ k1) ∧ Aside0 (Below w.heap.size w wc))
    case first =>
     have H:=HC3.out
     clear HC3
     by_cases c4 : 0 ≤ x3_1
     ·rw [if_pos c4] at H
      have c4b0 : decide (0 ≤ x3_1) = true:=decide_eq_true c4
      clear c4
      (first | rw [c4b0] | (simp only [i64_w,i32_w];rw [c4b0]) | skip)
      replace H:=oB_ H
      obtain ⟨t160,A50,H⟩:=H
      replace H : (if t160 = 0 then (spec_FirstBad.j1 k1 l0 x3_1 (decide (x3_1 > 2))) else (spec_FirstBad.j1 k1 l0 x3_1 true)) = some r:=H
      have A5:=aM_ A50
      clear A50
      by_cases c6 : t160 = 0
      ·rw [if_pos c6] at H
       have c6b0 : (t160 == 0) = true:=beq_iff_eq.mpr c6
       have c6b1 : (t160 != 0) = false:=bne_eq_false_iff_eq.mpr c6
       clear c6
       have H':=aM_ H
       clear H
       have p159 : 0 ≤ (x3_1 : Int):=oT_ (by first | (with_reducible assumption) | assumption)
       have q159 : x3_1 < (l0.length : Int):=oT_ (by first | (with_reducible assumption) | assumption)
       obtain ⟨ad159,A159_1,c159_1,A159_2,c159_2,A159_3,c159_3,e159,hx159_0,hx159_1,hx159_2,hx159_3,hl159_1,hi159_1,hl159_2,hi159_2,hl159_3,hi159_3⟩:=at_T35 HR0.out x3_1 p159 q159
       cases e159
       replace hx159_0:=(HB.out.cell (wL_ w _ hx159_0)).trans hx159_0
       replace hx159_1:=(HB.out.cell (wL_ w _ hx159_1)).trans hx159_1
       replace hx159_2:=(HB.out.cell (wL_ w _ hx159_2)).trans hx159_2
       replace hx159_3:=(HB.out.cell (wL_ w _ hx159_3)).trans hx159_3
       have HR159_1:=aM_ hi159_1
       have HC159_1:=aM_ hl159_1
       clear hi159_1 hl159_1
       have HR159_2:=aM_ hi159_2
       have HC159_2:=aM_ hl159_2
       clear hi159_2 hl159_2
       have HR159_3:=aM_ hi159_3
       have HC159_3:=aM_ hl159_3
       clear hi159_3 hl159_3
       replace p159:=eq_true p159
       replace q159:=eq_true q159
       go_wp2_with (first | (go_at_call 23;(with_reducible refine (spec_CheckDef.calls k1 ((rd_T35 l0 x3_1).f0) _ _ ((rd_T35 l0 x3_1).f1) _ _ ((rd_T35 l0 x3_1).f2) _ _ ((rd_T35 l0 x3_1).f3) t160 _ ?side1 ?side2 ?side3 ?side4 ?side5 ?side6 A5.out).mono ?_);(case side1=>repeat (first | exact (Kd.C_below HR159_1.out HB.out) | (with_reducible refine cA_ ?_ _) | (with_reducible refine cN_ ?_ _) | (with_reducible refine cD_ ?_)));(case side2=>exact HC159_1.out);(case side3=>repeat (first | exact (Kd.C_below HR159_2.out HB.out) | (with_reducible refine cA_ ?_ _) | (with_reducible refine cN_ ?_ _) | (with_reducible refine cD_ ?_)));(case side4=>exact HC159_2.out);(case side5=>repeat (first | exact (Kd.C_below HR159_3.out HB.out) | (with_reducible refine cA_ ?_ _) | (with_reducible refine cN_ ?_ _) | (with_reducible refine cD_ ?_)));(case side6=>exact HC159_3.out);rintro e w7 ⟨rfl,hb⟩;have n0_:=aM_ (bT_ (by exact bZ_ HB) hb);clear HB;have HB:=n0_;clear n0_;(try clear hb);(try clear hb2);(try clear hk);(try clear hi)))
       repeat (go_quiet (first | (go_at_call 23;(with_reducible refine (spec_CheckDef.calls k1 ((rd_T35 l0 x3_1).f0) _ _ ((rd_T35 l0 x3_1).f1) _ _ ((rd_T35 l0 x3_1).f2) _ _ ((rd_T35 l0 x3_1).f3) t160 _ ?side1 ?side2 ?side3 ?side4 ?side5 ?side6 A5.out).mono ?_);(case side1=>repeat (first | exact (Kd.C_below HR159_1.out HB.out) | (with_reducible refine cA_ ?_ _) | (with_reducible refine cN_ ?_ _) | (with_reducible refine cD_ ?_)));(case side2=>exact HC159_1.out);(case side3=>repeat (first | exact (Kd.C_below HR159_2.out HB.out) | (with_reducible refine cA_ ?_ _) | (with_reducible refine cN_ ?_ _) | (with_reducible refine cD_ ?_)));(case side4=>exact HC159_2.out);(case side5=>repeat (first | exact (Kd.C_below HR159_3.out HB.out) | (with_reducible refine cA_ ?_ _) | (with_reducible refine cN_ ?_ _) | (with_reducible refine cD_ ?_)));(case side6=>exact HC159_3.out);rintro e w7 ⟨rfl,hb⟩;have n0_:=aM_ (bT_ (by exact bZ_ HB) hb);clear HB;have HB:=n0_;clear n0_;(try clear hb);(try clear hb2);(try clear hk);(try clear hi)));try go_wp2_with (first | (go_at_call 23;(with_reducible refine (spec_CheckDef.calls k1 ((rd_T35 l0 x3_1).f0) _ _ ((rd_T35 l0 x3_1).f1) _ _ ((rd_T35 l0 x3_1).f2) _ _ ((rd_T35 l0 x3_1).f3) t160 _ ?side1 ?side2 ?side3 ?side4 ?side5 ?side6 A5.out).mono ?_);(case side1=>repeat (first | exact (Kd.C_below HR159_1.out HB.out) | (with_reducible refine cA_ ?_ _) | (with_reducible refine cN_ ?_ _) | (with_reducible refine cD_ ?_)));(case side2=>exact HC159_1.out);(case side3=>repeat (first | exact (Kd.C_below HR159_2.out HB.out) | (with_reducible refine cA_ ?_ _) | (with_reducible refine cN_ ?_ _) | (with_reducible refine cD_ ?_)));(case side4=>exact HC159_2.out);(case side5=>repeat (first | exact (Kd.C_below HR159_3.out HB.out) | (with_reducible refine cA_ ?_ _) | (with_reducible refine cN_ ?_ _) | (with_reducible refine cD_ ?_)));(case side6=>exact HC159_3.out);rintro e w7 ⟨rfl,hb⟩;have n0_:=aM_ (bT_ (by exact bZ_ HB) hb);clear HB;have HB:=n0_;clear n0_;(try clear hb);(try clear hb2);(try clear hk);(try clear hi))))
       (first | go_meet | (refine Met.intro ?_;go_step;(repeat apply Exists.intro);refine ⟨?rel,?eq⟩;(case eq=>(try simp only [c4b0]);rfl)))
       case rel=>exact ⟨_,(decide (x3_1 > 2)),(by first | rfl | (simp;done) | (simp [*];done)),H', ⟨by have:=HK1.out;first | omega | exact Nat.le_refl _⟩,⟨by exact bZ_ HB⟩⟩
      ·rw [if_neg c6] at H
       have c6b0 : (t160 == 0) = false:=beq_eq_false_iff_ne.mpr c6
       have c6b1 : (t160 != 0) = true:=bne_iff_ne.mpr c6
       have H':=aM_ H
       clear H
       have p159 : 0 ≤ (x3_1 : Int):=oT_ (by first | (with_reducible assumption) | assumption)
       have q159 : x3_1 < (l0.length : Int):=oT_ (by first | (with_reducible assumption) | assumption)
       obtain ⟨ad159,A159_1,c159_1,A159_2,c159_2,A159_3,c159_3,e159,hx159_0,hx159_1,hx159_2,hx159_3,hl159_1,hi159_1,hl159_2,hi159_2,hl159_3,hi159_3⟩:=at_T35 HR0.out x3_1 p159 q159
       cases e159
       replace hx159_0:=(HB.out.cell (wL_ w _ hx159_0)).trans hx159_0
       replace hx159_1:=(HB.out.cell (wL_ w _ hx159_1)).trans hx159_1
       replace hx159_2:=(HB.out.cell (wL_ w _ hx159_2)).trans hx159_2
       replace hx159_3:=(HB.out.cell (wL_ w _ hx159_3)).trans hx159_3
       have HR159_1:=aM_ hi159_1
       have HC159_1:=aM_ hl159_1
       clear hi159_1 hl159_1
       have HR159_2:=aM_ hi159_2
       have HC159_2:=aM_ hl159_2
       clear hi159_2 hl159_2
       have HR159_3:=aM_ hi159_3
       have HC159_3:=aM_ hl159_3
       clear hi159_3 hl159_3
       replace p159:=eq_true p159
       replace q159:=eq_true q159
       go_wp2_with (first | (go_at_call 23;(with_reducible refine (spec_CheckDef.calls k1 ((rd_T35 l0 x3_1).f0) _ _ ((rd_T35 l0 x3_1).f1) _ _ ((rd_T35 l0 x3_1).f2) _ _ ((rd_T35 l0 x3_1).f3) t160 _ ?side1 ?side2 ?side3 ?side4 ?side5 ?side6 A5.out).mono ?_);(case side1=>repeat (first | exact (Kd.C_below HR159_1.out HB.out) | (with_reducible refine cA_ ?_ _) | (with_reducible refine cN_ ?_ _) | (with_reducible refine cD_ ?_)));(case side2=>exact HC159_1.out);(case side3=>repeat (first | exact (Kd.C_below HR159_2.out HB.out) | (with_reducible refine cA_ ?_ _) | (with_reducible refine cN_ ?_ _) | (with_reducible refine cD_ ?_)));(case side4=>exact HC159_2.out);(case side5=>repeat (first | exact (Kd.C_below HR159_3.out HB.out) | (with_reducible refine cA_ ?_ _) | (with_reducible refine cN_ ?_ _) | (with_reducible refine cD_ ?_)));(case side6=>exact HC159_3.out);rintro e w8 ⟨rfl,hb⟩;have n0_:=aM_ (bT_ (by exact bZ_ HB) hb);clear HB;have HB:=n0_;clear n0_;(try clear hb);(try clear hb2);(try clear hk);(try clear hi)))
       repeat (go_quiet (first | (go_at_call 23;(with_reducible refine (spec_CheckDef.calls k1 ((rd_T35 l0 x3_1).f0) _ _ ((rd_T35 l0 x3_1).f1) _ _ ((rd_T35 l0 x3_1).f2) _ _ ((rd_T35 l0 x3_1).f3) t160 _ ?side1 ?side2 ?side3 ?side4 ?side5 ?side6 A5.out).mono ?_);(case side1=>repeat (first | exact (Kd.C_below HR159_1.out HB.out) | (with_reducible refine cA_ ?_ _) | (with_reducible refine cN_ ?_ _) | (with_reducible refine cD_ ?_)));(case side2=>exact HC159_1.out);(case side3=>repeat (first | exact (Kd.C_below HR159_2.out HB.out) | (with_reducible refine cA_ ?_ _) | (with_reducible refine cN_ ?_ _) | (with_reducible refine cD_ ?_)));(case side4=>exact HC159_2.out);(case side5=>repeat (first | exact (Kd.C_below HR159_3.out HB.out) | (with_reducible refine cA_ ?_ _) | (with_reducible refine cN_ ?_ _) | (with_reducible refine cD_ ?_)));(case side6=>exact HC159_3.out);rintro e w8 ⟨rfl,hb⟩;have n0_:=aM_ (bT_ (by exact bZ_ HB) hb);clear HB;have HB:=n0_;clear n0_;(try clear hb);(try clear hb2);(try clear hk);(try clear hi)));try go_wp2_with (first | (go_at_call 23;(with_reducible refine (spec_CheckDef.calls k1 ((rd_T35 l0 x3_1).f0) _ _ ((rd_T35 l0 x3_1).f1) _ _ ((rd_T35 l0 x3_1).f2) _ _ ((rd_T35 l0 x3_1).f3) t160 _ ?side1 ?side2 ?side3 ?side4 ?side5 ?side6 A5.out).mono ?_);(case side1=>repeat (first | exact (Kd.C_below HR159_1.out HB.out) | (with_reducible refine cA_ ?_ _) | (with_reducible refine cN_ ?_ _) | (with_reducible refine cD_ ?_)));(case side2=>exact HC159_1.out);(case side3=>repeat (first | exact (Kd.C_below HR159_2.out HB.out) | (with_reducible refine cA_ ?_ _) | (with_reducible refine cN_ ?_ _) | (with_reducible refine cD_ ?_)));(case side4=>exact HC159_2.out);(case side5=>repeat (first | exact (Kd.C_below HR159_3.out HB.out) | (with_reducible refine cA_ ?_ _) | (with_reducible refine cN_ ?_ _) | (with_reducible refine cD_ ?_)));(case side6=>exact HC159_3.out);rintro e w8 ⟨rfl,hb⟩;have n0_:=aM_ (bT_ (by exact bZ_ HB) hb);clear HB;have HB:=n0_;clear n0_;(try clear hb);(try clear hb2);(try clear hk);(try clear hi))))
       (first | go_meet | (refine Met.intro ?_;go_step;(repeat apply Exists.intro);refine ⟨?rel,?eq⟩;(case eq=>(try simp only [c4b0]);rfl)))
       case rel=>exact ⟨_,(true),(by first | rfl | (simp;done) | (simp [*];done)),H', ⟨by have:=HK1.out;first | omega | exact Nat.le_refl _⟩,⟨by exact bZ_ HB⟩⟩
     ·rw [if_neg c4] at H
      exact absurd H (by simp)
    case rest =>
     clear HC3
     try clear c1
     try clear p1
     try clear q1
     try clear hx1
     try clear c2
     try clear c2b0
     try clear p2
     try clear c4
     try clear c4b0
     try clear c6
     try clear c6b0
     try clear c6b1
     try clear hx159_0
     try clear hx159_1
     try clear hx159_2
     try clear hx159_3
     try clear p159
     try clear q159
     obtain ⟨kq,x20_2,rfl,HA,HJ2,HB⟩:=hcut
     cases kq with
     | zero=>exact absurd HA.out (by simp [spec_FirstBad.j1])
     | succ kj2 =>
      have H:=HA.out
      clear HA
      simp only [spec_FirstBad.j1] at H
      by_cases c9 : x20_2 = true
      ·subst c9
       have H1 : (some x3_1) = some r:=by rw [if_pos rfl] at H;exact H
       clear H
       have H:=H1
       clear H1
       obtain rfl:=Option.some.inj H
       go_wp2
       repeat (go_quiet (fail);try go_wp2)
       go_ret
       exact ⟨by first | rfl | (simp [errW_none,errW_some] <;> rfl) | (simp [*, errW_none,errW_some] <;> rfl),by exact bZ_ HB⟩
      ·replace c9:=Bool.eq_false_iff.mpr c9
       subst c9
       have H1 : (spec_FirstBad.l1 kj2 l0 x3_1 0) = some r:=by rw [if_neg (show ¬ (false = true) by decide)] at H;exact H
       clear H
       have H:=H1
       clear H1
       have H':=aM_ H
       clear H
       go_wp2
       repeat (go_quiet (fail);try go_wp2)
       (try simp only [Act.put,sI_,sS_,sZ_])
       go_loopg [4] kj2 (fun kq v4 w'=>∃ (x4_3 : Int),v4 = .int .i64 x4_3 ∧ Aside0 (spec_FirstBad.l1 kq l0 x3_1 x4_3 = some r) ∧ Aside0 (kq ≤ kj2) ∧ Aside0 (Below w.heap.size w w'))
       case atStart=>exact ⟨(0),(by first | rfl | (simp;done) | (simp [*];done)),H', ⟨Nat.le_refl _⟩,⟨by exact bZ_ HB⟩⟩
       case round =>
        clear H'
        try clear c1
        try clear p1
        try clear q1
        try clear hx1
        try clear c2
        try clear c2b0
        try clear p2
        try clear c4
        try clear c4b0
        try clear c6
        try clear c6b0
        try clear c6b1
        try clear c9
        try clear hx159_0
        try clear hx159_1
        try clear hx159_2
        try clear hx159_3
        try clear p1
        try clear p159
        try clear p2
        try clear q1
        try clear q159
        obtain ⟨x4_3,rfl,HA,HK3,HB⟩:=hrel
        cases gk with
        | zero=>exact absurd HA.out (by simp [spec_FirstBad.l1])
        | succ k3 =>
         have H:=HA.out
         clear HA
         simp only [spec_FirstBad.l1] at H
         by_cases c10 : x4_3 < x3_1
         ·rw [if_pos c10] at H
          have c10b0 : decide (x4_3 < x3_1) = true:=decide_eq_true c10
          clear c10
          by_cases c11 : 0 ≤ x4_3
          ·rw [if_pos c11] at H
           have c11b0 : decide (0 ≤ x4_3) = true:=decide_eq_true c11
           clear c11
           by_cases c12 : x4_3 < (l0.length : Int)
           ·rw [if_pos c12] at H
            have c12b0 : decide (x4_3 < (l0.length : Int)) = true:=decide_eq_true c12
            clear c12
            by_cases c13 : 0 ≤ x3_1
            ·rw [if_pos c13] at H
             have c13b0 : decide (0 ≤ x3_1) = true:=decide_eq_true c13
             clear c13
             by_cases c14 : x3_1 < (l0.length : Int)
             ·rw [if_pos c14] at H
              have c14b0 : decide (x3_1 < (l0.length : Int)) = true:=decide_eq_true c14
              clear c14
              by_cases c15 : ((rd_T35 l0 x4_3).f0).toList = ((rd_T35 l0 x3_1).f0).toList
              ·rw [if_pos c15] at H
               have c15b0 : (((rd_T35 l0 x4_3).f0).toList == ((rd_T35 l0 x3_1).f0).toList) = true:=beq_iff_eq.mpr c15
               have c15b1 : (((rd_T35 l0 x4_3).f0).toList != ((rd_T35 l0 x3_1).f0).toList) = false:=bne_eq_false_iff_eq.mpr c15
               clear c15
               obtain rfl:=Option.some.inj H
               have p161 : 0 ≤ (x4_3 : Int):=oT_ (by first | (with_reducible assumption) | assumption)
               have q161 : x4_3 < (l0.length : Int):=oT_ (by first | (with_reducible assumption) | assumption)
               obtain ⟨ad161,A161_1,c161_1,A161_2,c161_2,A161_3,c161_3,e161,hx161_0,hx161_1,hx161_2,hx161_3,hl161_1,hi161_1,hl161_2,hi161_2,hl161_3,hi161_3⟩:=at_T35 HR0.out x4_3 p161 q161
               cases e161
               replace hx161_0:=(HB.out.cell (wL_ w _ hx161_0)).trans hx161_0
               replace hx161_1:=(HB.out.cell (wL_ w _ hx161_1)).trans hx161_1
               replace hx161_2:=(HB.out.cell (wL_ w _ hx161_2)).trans hx161_2
               replace hx161_3:=(HB.out.cell (wL_ w _ hx161_3)).trans hx161_3
               have HR161_1:=aM_ hi161_1
               have HC161_1:=aM_ hl161_1
               clear hi161_1 hl161_1
               have HR161_2:=aM_ hi161_2
               have HC161_2:=aM_ hl161_2
               clear hi161_2 hl161_2
               have HR161_3:=aM_ hi161_3
               have HC161_3:=aM_ hl161_3
               clear hi161_3 hl161_3
               replace p161:=eq_true p161
               replace q161:=eq_true q161
               have p162 : 0 ≤ (x3_1 : Int):=oT_ (by first | (with_reducible assumption) | assumption)
               have q162 : x3_1 < (l0.length : Int):=oT_ (by first | (with_reducible assumption) | assumption)
               obtain ⟨ad162,A162_1,c162_1,A162_2,c162_2,A162_3,c162_3,e162,hx162_0,hx162_1,hx162_2,hx162_3,hl162_1,hi162_1,hl162_2,hi162_2,hl162_3,hi162_3⟩:=at_T35 HR0.out x3_1 p162 q162
               obtain rfl : ad161 = ad162:=(by injection e162)
               replace hx162_0:=(HB.out.cell (wL_ w _ hx162_0)).trans hx162_0
               replace hx162_1:=(HB.out.cell (wL_ w _ hx162_1)).trans hx162_1
               replace hx162_2:=(HB.out.cell (wL_ w _ hx162_2)).trans hx162_2
               replace hx162_3:=(HB.out.cell (wL_ w _ hx162_3)).trans hx162_3
               have HR162_1:=aM_ hi162_1
               have HC162_1:=aM_ hl162_1
               clear hi162_1 hl162_1
               have HR162_2:=aM_ hi162_2
               have HC162_2:=aM_ hl162_2
               clear hi162_2 hl162_2
               have HR162_3:=aM_ hi162_3
               have HC162_3:=aM_ hl162_3
               clear hi162_3 hl162_3
               replace p162:=eq_true p162
               replace q162:=eq_true q162
               go_wp2
               repeat (go_quiet (fail);try go_wp2)
               go_ret
               exact ⟨by first | rfl | (simp [errW_none,errW_some] <;> rfl) | (simp [*, errW_none,errW_some] <;> rfl),by exact bZ_ HB⟩
              ·rw [if_neg c15] at H
               have c15b0 : (((rd_T35 l0 x4_3).f0).toList == ((rd_T35 l0 x3_1).f0).toList) = false:=beq_eq_false_iff_ne.mpr c15
               have c15b1 : (((rd_T35 l0 x4_3).f0).toList != ((rd_T35 l0 x3_1).f0).toList) = true:=bne_iff_ne.mpr c15
               have H':=aM_ H
               clear H
               have p161 : 0 ≤ (x4_3 : Int):=oT_ (by first | (with_reducible assumption) | assumption)
               have q161 : x4_3 < (l0.length : Int):=oT_ (by first | (with_reducible assumption) | assumption)
               obtain ⟨ad161,A161_1,c161_1,A161_2,c161_2,A161_3,c161_3,e161,hx161_0,hx161_1,hx161_2,hx161_3,hl161_1,hi161_1,hl161_2,hi161_2,hl161_3,hi161_3⟩:=at_T35 HR0.out x4_3 p161 q161
               cases e161
               replace hx161_0:=(HB.out.cell (wL_ w _ hx161_0)).trans hx161_0
               replace hx161_1:=(HB.out.cell (wL_ w _ hx161_1)).trans hx161_1
               replace hx161_2:=(HB.out.cell (wL_ w _ hx161_2)).trans hx161_2
               replace hx161_3:=(HB.out.cell (wL_ w _ hx161_3)).trans hx161_3
               have HR161_1:=aM_ hi161_1
               have HC161_1:=aM_ hl161_1
               clear hi161_1 hl161_1
               have HR161_2:=aM_ hi161_2
               have HC161_2:=aM_ hl161_2
               clear hi161_2 hl161_2
               have HR161_3:=aM_ hi161_3
               have HC161_3:=aM_ hl161_3
               clear hi161_3 hl161_3
               replace p161:=eq_true p161
               replace q161:=eq_true q161
               have p162 : 0 ≤ (x3_1 : Int):=oT_ (by first | (with_reducible assumption) | assumption)
               have q162 : x3_1 < (l0.length : Int):=oT_ (by first | (with_reducible assumption) | assumption)
               obtain ⟨ad162,A162_1,c162_1,A162_2,c162_2,A162_3,c162_3,e162,hx162_0,hx162_1,hx162_2,hx162_3,hl162_1,hi162_1,hl162_2,hi162_2,hl162_3,hi162_3⟩:=at_T35 HR0.out x3_1 p162 q162
               obtain rfl : ad161 = ad162:=(by injection e162)
               replace hx162_0:=(HB.out.cell (wL_ w _ hx162_0)).trans hx162_0
               replace hx162_1:=(HB.out.cell (wL_ w _ hx162_1)).trans hx162_1
               replace hx162_2:=(HB.out.cell (wL_ w _ hx162_2)).trans hx162_2
               replace hx162_3:=(HB.out.cell (wL_ w _ hx162_3)).trans hx162_3
               have HR162_1:=aM_ hi162_1
               have HC162_1:=aM_ hl162_1
               clear hi162_1 hl162_1
               have HR162_2:=aM_ hi162_2
               have HC162_2:=aM_ hl162_2
               clear hi162_2 hl162_2
               have HR162_3:=aM_ hi162_3
               have HC162_3:=aM_ hl162_3
               clear hi162_3 hl162_3
               replace p162:=eq_true p162
               replace q162:=eq_true q162
               go_wp2
               repeat (go_quiet (fail);try go_wp2)
               go_roundg k3
               case measure=>have:=HK1.out;have:=HJ2.out;have:=HK3.out;omega
               case rel=>exact ⟨(wrap64 (x4_3 + 1)),(by first | rfl | (simp;done) | (simp [*];done)),H', ⟨by have:=HK1.out;have:=HJ2.out;have:=HK3.out;omega⟩,⟨by exact bZ_ HB⟩⟩
             ·rw [if_neg c14] at H
              exact absurd H (by simp)
            ·rw [if_neg c13] at H
             exact absurd H (by simp)
           ·rw [if_neg c12] at H
            exact absurd H (by simp)
          ·rw [if_neg c11] at H
           exact absurd H (by simp)
         ·rw [if_neg c10] at H
          have c10b0 : decide (x4_3 < x3_1) = false:=decide_eq_false c10
          clear c10
          have H':=aM_ H
          clear H
          go_wp2
          repeat (go_quiet (fail);try go_wp2)
          go_roundg k3
          case measure=>have:=HK1.out;have:=HJ2.out;have:=HK3.out;omega
          case rel=>exact ⟨(wrap64 (x3_1 + 1)),(by first | rfl | (simp;done) | (simp [*];done)),H', ⟨by have:=HK1.out;have:=HJ2.out;have:=HK3.out;omega⟩,⟨by exact bZ_ HB⟩⟩
   ·rw [if_neg c2] at H
    have c2b0 : decide (x3_1 < (l0.length : Int)) = false:=decide_eq_false c2
    clear c2
    obtain rfl:=Option.some.inj H
    go_wp2
    repeat (go_quiet (fail);try go_wp2)
    go_ret
    exact ⟨by first | rfl | (simp [errW_none,errW_some] <;> rfl) | (simp [*, errW_none,errW_some] <;> rfl),by exact bZ_ HB⟩
def laws_toCol.f (a0_0 : ByteArray) (a0_1 : Int) (a0_2 : Bool) : Option (ByteArray × Int × Bool):=some (a0_0,a0_1,a0_2)
set_option maxHeartbeats 8000000 in
set_option maxRecDepth 100000 in
theorem laws_toCol.calls (a0_0 : ByteArray) (a0_1 : Int) (a0_2 : Bool) (r1 : ByteArray) (r2 : Int) (r3 : Bool) (w : World) (h : laws_toCol.f a0_0 a0_1 a0_2 = some (r1,r2,r3)) :
  Calls Tryd.prog 114 #[.agg #[.string a0_0,.int .i64 a0_1,.bool a0_2]] w fun e w'=>e = .returned (.agg #[.string r1,.int .i64 r2,.bool r3]) ∧ Below w.heap.size w w':=by
 have hu131:=Tryd.underlying131
 have hu82:=Tryd.underlying82
 have HB:=aM_ (Below.refl w.heap.size w)
 have H : (some (a0_0,a0_1,a0_2)) = some (r1,r2,r3):=h
 clear h
 simp only [Option.some.injEq,Prod.mk.injEq] at H
 obtain ⟨rfl,rfl,rfl⟩:=H
 go_enter Tryd.func114,Tryd.ntmps114
 go_wp2_with (first | ((with_reducible refine gate_dst (N:=1) rfl ?_);refine box_event ?hg (N:=1) ?hd (cs:=#[.string a0_0,.int .i64 a0_1,.bool a0_2]) (t:=131) ?hr ?_;(case hd=>rfl);(case hg=>rfl);(case hr=>first | (go_simp;done) | (go_simp;rfl));intro gb163 hg w2 hbox hb;have n0_:=aM_ (bT_ (by exact bZ_ HB) hb);have n1_:=aM_ (hbox);have n2_:=aM_ ((by rw [hg];exact (bS_ (by exact bZ_ HB)) : w.heap.size ≤ gb163));have n3_:=aM_ ((by rw [hg];exact (bS_ (by exact bZ_ HB)) : w.heap.size ≤ gb163));clear HB;have HB:=n0_;have BK163:=n1_;have GW163:=n2_;have GE163:=n3_;clear n0_ n1_ n2_ n3_;clear hb hbox hg) | ((with_reducible refine gate_dst (N:=2) rfl ?_);refine box_event ?hg (N:=2) ?hd (cs:=#[.string (⟨#[]⟩ : ByteArray),.int .i64 0,.bool false]) (t:=82) ?hr ?_;(case hd=>rfl);(case hg=>rfl);(case hr=>first | (go_simp;done) | (go_simp;rfl));intro gb164 hg w3 hbox hb;have n0_:=aM_ (blk_below (g:=gb163) (o:=.cells #[.string a0_0,.int .i64 a0_1,.bool a0_2] 131 (0,0)) (by exact kZ_ BK163) hb);have n1_:=aM_ (bT_ (by exact bZ_ HB) hb);have n2_:=aM_ (hbox);have n3_:=aM_ ((by rw [hg];exact (bS_ (by exact bZ_ HB)) : w.heap.size ≤ gb164));have n4_:=aM_ ((by rw [hg];exact (bS_ (by exact bZ_ HB)) : w.heap.size ≤ gb164));have n5_:=aM_ ((by rw [hg];exact Nat.ne_of_lt (blk_lt (g:=gb163) (o:=.cells #[.string a0_0,.int .i64 a0_1,.bool a0_2] 131 (0,0)) (by exact kZ_ BK163)) : gb163 ≠ gb164));have n6_:=aM_ ((by rw [hg];exact Nat.ne_of_gt (blk_lt (g:=gb163) (o:=.cells #[.string a0_0,.int .i64 a0_1,.bool a0_2] 131 (0,0)) (by exact kZ_ BK163)) : gb164 ≠ gb163));clear BK163;clear HB;have BK163:=n0_;have HB:=n1_;have BK164:=n2_;have GW164:=n3_;have GE164:=n4_;have NB163_164:=n5_;have NB164_163:=n6_;clear n0_ n1_ n2_ n3_ n4_ n5_ n6_;clear hb hbox hg) | ((with_reducible refine gate_dst (N:=3) rfl ?_);refine box_event ?hg (N:=3) ?hd (cs:=#[.string (⟨#[]⟩ : ByteArray),.int .i64 0,.bool false]) (t:=82) ?hr ?_;(case hd=>rfl);(case hg=>rfl);(case hr=>first | (go_simp;done) | (go_simp;rfl));intro gb165 hg w4 hbox hb;have n0_:=aM_ (blk_below (g:=gb163) (o:=.cells #[.string a0_0,.int .i64 a0_1,.bool a0_2] 131 (0,0)) (by exact kZ_ BK163) hb);have n1_:=aM_ (blk_below (g:=gb164) (o:=.cells #[.string (⟨#[]⟩ : ByteArray),.int .i64 0,.bool false] 82 (0,0)) (by exact kZ_ BK164) hb);have n2_:=aM_ (bT_ (by exact bZ_ HB) hb);have n3_:=aM_ (hbox);have n4_:=aM_ ((by rw [hg];exact (bS_ (by exact bZ_ HB)) : w.heap.size ≤ gb165));have n5_:=aM_ ((by rw [hg];exact (bS_ (by exact bZ_ HB)) : w.heap.size ≤ gb165));have n6_:=aM_ ((by rw [hg];exact Nat.ne_of_lt (blk_lt (g:=gb163) (o:=.cells #[.string a0_0,.int .i64 a0_1,.bool a0_2] 131 (0,0)) (by exact kZ_ BK163)) : gb163 ≠ gb165));have n7_:=aM_ ((by rw [hg];exact Nat.ne_of_gt (blk_lt (g:=gb163) (o:=.cells #[.string a0_0,.int .i64 a0_1,.bool a0_2] 131 (0,0)) (by exact kZ_ BK163)) : gb165 ≠ gb163));have n8_:=aM_ ((by rw [hg];exact Nat.ne_of_lt (blk_lt (g:=gb164) (o:=.cells #[.string (⟨#[]⟩ : ByteArray),.int .i64 0,.bool false] 82 (0,0)) (by exact kZ_ BK164)) : gb164 ≠ gb165));have n9_:=aM_ ((by rw [hg];exact Nat.ne_of_gt (blk_lt (g:=gb164) (o:=.cells #[.string (⟨#[]⟩ : ByteArray),.int .i64 0,.bool false] 82 (0,0)) (by exact kZ_ BK164)) : gb165 ≠ gb164));clear BK163;clear BK164;clear HB;have BK163:=n0_;have BK164:=n1_;have HB:=n2_;have BK165:=n3_;have GW165:=n4_;have GE165:=n5_;have NB163_165:=n6_;have NB165_163:=n7_;have NB164_165:=n8_;have NB165_164:=n9_;clear n0_ n1_ n2_ n3_ n4_ n5_ n6_ n7_ n8_ n9_;clear hb hbox hg;have hnb5:=NB163_164.out;have hnc5:=NB164_163.out;have hnb6:=NB163_165.out;have hnc6:=NB165_163.out;have hcz7_0 : w4.cell? ⟨gb163,0,none⟩ = some (.string a0_0):=(kC_ BK163.out 0).trans rfl;have hcz7_1 : w4.cell? ⟨gb163,1,none⟩ = some (.int .i64 a0_1):=(kC_ BK163.out 1).trans rfl;have hcz7_2 : w4.cell? ⟨gb163,2,none⟩ = some (.bool a0_2):=(kC_ BK163.out 2).trans rfl;have hfz7_0:=kF_ BK163.out 0;have hfz7_1:=kF_ BK163.out 1;have hfz7_2:=kF_ BK163.out 2;have hnb8:=NB165_164.out;have hnc8:=NB164_165.out;have hcz9_0 : w4.cell? ⟨gb165,0,none⟩ = some (.string (⟨#[]⟩ : ByteArray)):=(kC_ BK165.out 0).trans rfl;have hcz9_1 : w4.cell? ⟨gb165,1,none⟩ = some (.int .i64 0):=(kC_ BK165.out 1).trans rfl;have hcz9_2 : w4.cell? ⟨gb165,2,none⟩ = some (.bool false):=(kC_ BK165.out 2).trans rfl;have hfz9_0:=kF_ BK165.out 0;have hfz9_1:=kF_ BK165.out 1;have hfz9_2:=kF_ BK165.out 2;have hcz10_0 : w4.cell? ⟨gb164,0,none⟩ = some (.string (⟨#[]⟩ : ByteArray)):=(kC_ BK164.out 0).trans rfl;have hcz10_1 : w4.cell? ⟨gb164,1,none⟩ = some (.int .i64 0):=(kC_ BK164.out 1).trans rfl;have hcz10_2 : w4.cell? ⟨gb164,2,none⟩ = some (.bool false):=(kC_ BK164.out 2).trans rfl;have hfz10_0:=kF_ BK164.out 0;have hfz10_1:=kF_ BK164.out 1;have hfz10_2:=kF_ BK164.out 2))
 refine bodyPost_ret (results_cell_row rfl _ _ gb164 82 #[.string a0_0,.int .i64 a0_1,.bool a0_2] (0,0) _ rfl (by (with_reducible repeat (first | refine kN_ ?_ _ | refine kD_ ?_ | refine kA_ ?_ _));refine kP_ (cs:=#[.string a0_0,.int .i64 a0_1,.bool false]) ?_ 2 _ rfl;(with_reducible repeat (first | refine kN_ ?_ _ | refine kD_ ?_ | refine kA_ ?_ _));refine kP_ (cs:=#[.string a0_0,.int .i64 0,.bool false]) ?_ 1 _ rfl;(with_reducible repeat (first | refine kN_ ?_ _ | refine kD_ ?_ | refine kA_ ?_ _));refine kP_ (cs:=#[.string (⟨#[]⟩ : ByteArray),.int .i64 0,.bool false]) ?_ 0 _ rfl;exact kW_ BK164) Tryd.underlying82 rfl (by kernel_rfl)) rfl ?_
 exact ⟨by first | rfl | (simp [errW_none,errW_some] <;> rfl) | (simp [*, errW_none,errW_some] <;> rfl),by exact bZ_ HB⟩
end Go.Proofs.YtipehkeabnfngaaDoor.PFnExactFirstBad
