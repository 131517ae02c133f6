import Derived.Test.YtipehkeabnfngaaDoorZDTPFnExactDefTextx0
import Derived.Test.YtipehkeabnfngaaDoorZDTPFnExactDefTextx6
import Derived.Test.YtipehkeabnfngaaDoorZDTPFnExactDefTextx12
import Derived.Test.YtipehkeabnfngaaDoorZDTPFnExactDefTextx13
import Derived.Test.YtipehkeabnfngaaDoorZDTPFnExactDefTextx14
import Derived.Test.YtipehkeabnfngaaDoorZDTPFnExactDefTextx15
namespace Go.Proofs.YtipehkeabnfngaaDoor.PFnExactDefText
open Go.RowKit Go.Proofs.YtipehkeabnfngaaDoorW.PrintWords Go.Proofs.YtipehkeabnfngaaDoorW.PrintLast Go.Proofs.YtipehkeabnfngaaDoorW.PrintMore Go.Proofs.YtipehkeabnfngaaDoor.Xtra
attribute [local go_sem] max2_int min2_int max_two min_two max_three min_three max_four min_four str_leq str_gtr str_geq setCell_drewN cell_set2 cell_set3   -- for this text's walks alone
set_option linter.unusedVariables false
set_option linter.unusedSimpArgs false
def laws_eqDef.f (k : Nat) (a0_0 : ByteArray) (l0_1 : List (S82)) (l0_2 : List (S85)) (l0_3 : List (S69)) (a1_0 : ByteArray) (l1_1 : List (S82)) (l1_2 : List (S85)) (l1_3 : List (S69)) : Option (Bool):=if a0_0.toList = a1_0.toList then ((laws_eqColS.f k l0_1 l1_1).bind fun t331=>(if t331 = true then ((laws_eqByS.f k l0_2 l1_2).bind fun t332=>(if t332 = true then ((laws_eqIndexS.f k l0_3 l1_3).bind fun t333=>(if t333 = true then (some true) else (some false))) else (some false))) else (some false))) else (some false)
theorem laws_eqDef.mono : ∀ a0 a1 a2 a3 a4 a5 a6 a7 k,LeO (laws_eqDef.f k a0 a1 a2 a3 a4 a5 a6 a7) (laws_eqDef.f (k + 1) a0 a1 a2 a3 a4 a5 a6 a7):=by
 intro a0 a1 a2 a3 a4 a5 a6 a7 k
 unfold laws_eqDef.f
 repeat' first
   | (with_reducible exact laws_eqByS.mono _ _ _)
   | (with_reducible exact laws_eqColS.mono _ _ _)
   | (with_reducible exact laws_eqIndexS.mono _ _ _)
   | (with_reducible exact LeO.refl _)
   | (with_reducible exact LeO.none _)
   | (with_reducible refine LeO.ite ?_ ?_)
   | (with_reducible refine LeO.bind ?_ (fun _=>?_))
   | exact laws_eqByS.mono _ _ _
   | exact laws_eqColS.mono _ _ _
   | exact laws_eqIndexS.mono _ _ _
   | exact LeO.none _
   | refine LeO.ite ?_ ?_
   | refine LeO.bind ?_ (fun _=>?_)
set_option maxHeartbeats 8000000 in
set_option maxRecDepth 100000 in
theorem laws_eqDef.calls (k : Nat) (a0_0 : ByteArray) (A0_1 : Option Addr) (c0_1 : Nat) (l0_1 : List (S82)) (A0_2 : Option Addr) (c0_2 : Nat) (l0_2 : List (S85)) (A0_3 : Option Addr) (c0_3 : Nat) (l0_3 : List (S69)) (a1_0 : ByteArray) (A1_1 : Option Addr) (c1_1 : Nat) (l1_1 : List (S82)) (A1_2 : Option Addr) (c1_2 : Nat) (l1_2 : List (S85)) (A1_3 : Option Addr) (c1_3 : Nat) (l1_3 : List (S69)) (r : Bool) (w : World) (hr0_1 : Kd.C k82 w A0_1 l0_1.length l0_1) (hc0_1 : l0_1.length ≤ c0_1) (hr0_2 : Kd.C k85 w A0_2 l0_2.length l0_2) (hc0_2 : l0_2.length ≤ c0_2) (hr0_3 : Kd.C k69 w A0_3 l0_3.length l0_3) (hc0_3 : l0_3.length ≤ c0_3) (hr1_1 : Kd.C k82 w A1_1 l1_1.length l1_1) (hc1_1 : l1_1.length ≤ c1_1) (hr1_2 : Kd.C k85 w A1_2 l1_2.length l1_2) (hc1_2 : l1_2.length ≤ c1_2) (hr1_3 : Kd.C k69 w A1_3 l1_3.length l1_3) (hc1_3 : l1_3.length ≤ c1_3) (h : laws_eqDef.f k a0_0 l0_1 l0_2 l0_3 a1_0 l1_1 l1_2 l1_3 = some r) :
  Calls Tryd.prog 30 #[.agg #[.string a0_0,.slice A0_1 l0_1.length c0_1,.slice A0_2 l0_2.length c0_2,.slice A0_3 l0_3.length c0_3],.agg #[.string a1_0,.slice A1_1 l1_1.length c1_1,.slice A1_2 l1_2.length c1_2,.slice A1_3 l1_3.length c1_3]] w fun e w'=>e = .returned (.bool r) ∧ Below w.heap.size w w':=by
 have hu35:=Tryd.underlying35
 have HR0_1:=aM_ hr0_1
 have HC0_1:=aM_ hc0_1
 clear hr0_1 hc0_1
 have HR0_2:=aM_ hr0_2
 have HC0_2:=aM_ hc0_2
 clear hr0_2 hc0_2
 have HR0_3:=aM_ hr0_3
 have HC0_3:=aM_ hc0_3
 clear hr0_3 hc0_3
 have HR1_1:=aM_ hr1_1
 have HC1_1:=aM_ hc1_1
 clear hr1_1 hc1_1
 have HR1_2:=aM_ hr1_2
 have HC1_2:=aM_ hc1_2
 clear hr1_2 hc1_2
 have HR1_3:=aM_ hr1_3
 have HC1_3:=aM_ hc1_3
 clear hr1_3 hc1_3
 have HB:=aM_ (Below.refl w.heap.size w)
 have H : (if a0_0.toList = a1_0.toList then ((laws_eqColS.f k l0_1 l1_1).bind fun t331=>(if t331 = true then ((laws_eqByS.f k l0_2 l1_2).bind fun t332=>(if t332 = true then ((laws_eqIndexS.f k l0_3 l1_3).bind fun t333=>(if t333 = true then (some true) else (some false))) else (some false))) else (some false))) else (some false)) = some r:=h
 clear h
 by_cases c3 : a0_0.toList = a1_0.toList
 ·rw [if_pos c3] at H
  have c3b0 : (a0_0.toList == a1_0.toList) = true:=beq_iff_eq.mpr c3
  have c3b1 : (a0_0.toList != a1_0.toList) = false:=bne_eq_false_iff_eq.mpr c3
  clear c3
  replace H:=oB_ H
  obtain ⟨t331,A40,H⟩:=H
  replace H : (if t331 = true then ((laws_eqByS.f k l0_2 l1_2).bind fun t332=>(if t332 = true then ((laws_eqIndexS.f k l0_3 l1_3).bind fun t333=>(if t333 = true then (some true) else (some false))) else (some false))) else (some false)) = some r:=H
  have A4:=aM_ A40
  clear A40
  by_cases c5 : t331 = true
  ·subst c5
   have H1 : ((laws_eqByS.f k l0_2 l1_2).bind fun t332=>(if t332 = true then ((laws_eqIndexS.f k l0_3 l1_3).bind fun t333=>(if t333 = true then (some true) else (some false))) else (some false))) = some r:=by rw [if_pos rfl] at H;exact H
   clear H
   have H:=H1
   clear H1
   replace H:=oB_ H
   obtain ⟨t332,A60,H⟩:=H
   replace H : (if t332 = true then ((laws_eqIndexS.f k l0_3 l1_3).bind fun t333=>(if t333 = true then (some true) else (some false))) else (some false)) = some r:=H
   have A6:=aM_ A60
   clear A60
   by_cases c7 : t332 = true
   ·subst c7
    have H1 : ((laws_eqIndexS.f k l0_3 l1_3).bind fun t333=>(if t333 = true then (some true) else (some false))) = some r:=by rw [if_pos rfl] at H;exact H
    clear H
    have H:=H1
    clear H1
    replace H:=oB_ H
    obtain ⟨t333,A80,H⟩:=H
    replace H : (if t333 = true then (some true) else (some false)) = some r:=H
    have A8:=aM_ A80
    clear A80
    by_cases c9 : t333 = true
    ·subst c9
     have H1 : (some true) = some r:=by rw [if_pos rfl] at H;exact H
     clear H
     have H:=H1
     clear H1
     obtain rfl:=Option.some.inj H
     go_enter Tryd.func30,Tryd.ntmps30
     go_wp2_with (first | ((with_reducible refine gate_dst (N:=2) rfl ?_);refine box_event ?hg (N:=2) ?hd (cs:=#[.string a0_0,.slice A0_1 l0_1.length c0_1,.slice A0_2 l0_2.length c0_2,.slice A0_3 l0_3.length c0_3]) (t:=35) ?hr ?_;(case hd=>rfl);(case hg=>rfl);(case hr=>first | (go_simp;done) | (go_simp;rfl));intro gb329 hg w10 hbox hb;have n0_:=aM_ (bT_ (by exact bZ_ HB) hb);have n1_:=aM_ (hbox);have n2_:=aM_ ((by rw [hg];exact (bS_ (by exact bZ_ HB)) : w.heap.size ≤ gb329));have n3_:=aM_ ((by rw [hg];exact (bS_ (by exact bZ_ HB)) : w.heap.size ≤ gb329));clear HB;have HB:=n0_;have BK329:=n1_;have GW329:=n2_;have GE329:=n3_;clear n0_ n1_ n2_ n3_;clear hb hbox hg) | ((with_reducible refine gate_dst (N:=3) rfl ?_);refine box_event ?hg (N:=3) ?hd (cs:=#[.string a1_0,.slice A1_1 l1_1.length c1_1,.slice A1_2 l1_2.length c1_2,.slice A1_3 l1_3.length c1_3]) (t:=35) ?hr ?_;(case hd=>rfl);(case hg=>rfl);(case hr=>first | (go_simp;done) | (go_simp;rfl));intro gb330 hg w11 hbox hb;have n0_:=aM_ (blk_below (g:=gb329) (o:=.cells #[.string a0_0,.slice A0_1 l0_1.length c0_1,.slice A0_2 l0_2.length c0_2,.slice A0_3 l0_3.length c0_3] 35 (0,0)) (by exact kZ_ BK329) hb);have n1_:=aM_ (bT_ (by exact bZ_ HB) hb);have n2_:=aM_ (hbox);have n3_:=aM_ ((by rw [hg];exact (bS_ (by exact bZ_ HB)) : w.heap.size ≤ gb330));have n4_:=aM_ ((by rw [hg];exact (bS_ (by exact bZ_ HB)) : w.heap.size ≤ gb330));have n5_:=aM_ ((by rw [hg];exact nN_ (blk_lt (g:=gb329) (o:=.cells #[.string a0_0,.slice A0_1 l0_1.length c0_1,.slice A0_2 l0_2.length c0_2,.slice A0_3 l0_3.length c0_3] 35 (0,0)) (by exact kZ_ BK329)) : gb329 ≠ gb330));have n6_:=aM_ ((by rw [hg];exact Nat.ne_of_gt (blk_lt (g:=gb329) (o:=.cells #[.string a0_0,.slice A0_1 l0_1.length c0_1,.slice A0_2 l0_2.length c0_2,.slice A0_3 l0_3.length c0_3] 35 (0,0)) (by exact kZ_ BK329)) : gb330 ≠ gb329));clear BK329;clear HB;have BK329:=n0_;have HB:=n1_;have BK330:=n2_;have GW330:=n3_;have GE330:=n4_;have NB329_330:=n5_;have NB330_329:=n6_;clear n0_ n1_ n2_ n3_ n4_ n5_ n6_;clear hb hbox hg;have hnb12:=NB329_330.out;have hnc12:=NB330_329.out;have hcz13_0 : w11.cell? ⟨gb329,0,none⟩ = some (.string a0_0):=(kC_ BK329.out 0).trans rfl;have hcz13_1 : w11.cell? ⟨gb329,1,none⟩ = some (.slice A0_1 l0_1.length c0_1):=(kC_ BK329.out 1).trans rfl;have hcz13_2 : w11.cell? ⟨gb329,2,none⟩ = some (.slice A0_2 l0_2.length c0_2):=(kC_ BK329.out 2).trans rfl;have hcz13_3 : w11.cell? ⟨gb329,3,none⟩ = some (.slice A0_3 l0_3.length c0_3):=(kC_ BK329.out 3).trans rfl;have hfz13_0:=kF_ BK329.out 0;have hfz13_1:=kF_ BK329.out 1;have hfz13_2:=kF_ BK329.out 2;have hfz13_3:=kF_ BK329.out 3;have hcz14_0 : w11.cell? ⟨gb330,0,none⟩ = some (.string a1_0):=(kC_ BK330.out 0).trans rfl;have hcz14_1 : w11.cell? ⟨gb330,1,none⟩ = some (.slice A1_1 l1_1.length c1_1):=(kC_ BK330.out 1).trans rfl;have hcz14_2 : w11.cell? ⟨gb330,2,none⟩ = some (.slice A1_2 l1_2.length c1_2):=(kC_ BK330.out 2).trans rfl;have hcz14_3 : w11.cell? ⟨gb330,3,none⟩ = some (.slice A1_3 l1_3.length c1_3):=(kC_ BK330.out 3).trans rfl;have hfz14_0:=kF_ BK330.out 0;have hfz14_1:=kF_ BK330.out 1;have hfz14_2:=kF_ BK330.out 2;have hfz14_3:=kF_ BK330.out 3) | ((with_reducible refine gate_callee (f:=76) rfl ?_);refine goesL_ (some 14) rfl rfl Tryd.func76 (by kernel_rfl) rfl #[.slice A0_1 l0_1.length c0_1,.slice A1_1 l1_1.length c1_1] rfl (by (try simp only [mA_,mC_,mN_]);first | done | rfl | (simp only [lD_,lT_];rfl)) ?_;(with_reducible refine (laws_eqColS.calls k _ _ l0_1 _ _ l1_1 true _ ?side1 ?side2 ?side3 ?side4 A4.out).mono ?_);(case side1=>repeat (first | exact (Kd.C_below HR0_1.out HB.out) | (with_reducible refine cA_ ?_ _) | (with_reducible refine cN_ ?_ _) | (with_reducible refine cD_ ?_)));(case side2=>exact HC0_1.out);(case side3=>repeat (first | exact (Kd.C_below HR1_1.out HB.out) | (with_reducible refine cA_ ?_ _) | (with_reducible refine cN_ ?_ _) | (with_reducible refine cD_ ?_)));(case side4=>exact HC1_1.out);rintro e w15 ⟨rfl,hb⟩;refine ⟨_,rfl,?_⟩;have n0_:=aM_ (blk_below (g:=gb329) (o:=.cells #[.string a0_0,.slice A0_1 l0_1.length c0_1,.slice A0_2 l0_2.length c0_2,.slice A0_3 l0_3.length c0_3] 35 (0,0)) (by exact kZ_ BK329) hb);have n1_:=aM_ (blk_below (g:=gb330) (o:=.cells #[.string a1_0,.slice A1_1 l1_1.length c1_1,.slice A1_2 l1_2.length c1_2,.slice A1_3 l1_3.length c1_3] 35 (0,0)) (by exact kZ_ BK330) hb);have n2_:=aM_ (bT_ (by exact bZ_ HB) hb);clear BK329;clear BK330;clear HB;have BK329:=n0_;have BK330:=n1_;have HB:=n2_;clear n0_ n1_ n2_;(try clear hb);(try clear hb2);(try clear hk);(try clear hi);have hcz16_0 : w15.cell? ⟨gb329,0,none⟩ = some (.string a0_0):=(kC_ BK329.out 0).trans rfl;have hcz16_1 : w15.cell? ⟨gb329,1,none⟩ = some (.slice A0_1 l0_1.length c0_1):=(kC_ BK329.out 1).trans rfl;have hcz16_2 : w15.cell? ⟨gb329,2,none⟩ = some (.slice A0_2 l0_2.length c0_2):=(kC_ BK329.out 2).trans rfl;have hcz16_3 : w15.cell? ⟨gb329,3,none⟩ = some (.slice A0_3 l0_3.length c0_3):=(kC_ BK329.out 3).trans rfl;have hfz16_0:=kF_ BK329.out 0;have hfz16_1:=kF_ BK329.out 1;have hfz16_2:=kF_ BK329.out 2;have hfz16_3:=kF_ BK329.out 3;have hcz17_0 : w15.cell? ⟨gb330,0,none⟩ = some (.string a1_0):=(kC_ BK330.out 0).trans rfl;have hcz17_1 : w15.cell? ⟨gb330,1,none⟩ = some (.slice A1_1 l1_1.length c1_1):=(kC_ BK330.out 1).trans rfl;have hcz17_2 : w15.cell? ⟨gb330,2,none⟩ = some (.slice A1_2 l1_2.length c1_2):=(kC_ BK330.out 2).trans rfl;have hcz17_3 : w15.cell? ⟨gb330,3,none⟩ = some (.slice A1_3 l1_3.length c1_3):=(kC_ BK330.out 3).trans rfl;have hfz17_0:=kF_ BK330.out 0;have hfz17_1:=kF_ BK330.out 1;have hfz17_2:=kF_ BK330.out 2;have hfz17_3:=kF_ BK330.out 3) | ((with_reducible refine gate_callee (f:=77) rfl ?_);refine goesL_ (some 20) rfl rfl Tryd.func77 (by kernel_rfl) rfl #[.slice A0_2 l0_2.length c0_2,.slice A1_2 l1_2.length c1_2] rfl (by (try simp only [mA_,mC_,mN_]);first | done | rfl | (simp only [lD_,lT_];rfl)) ?_;(with_reducible refine (laws_eqByS.calls k _ _ l0_2 _ _ l1_2 true _ ?side1 ?side2 ?side3 ?side4 A6.out).mono ?_);(case side1=>repeat (first | exact (Kd.C_below HR0_2.out HB.out) | (with_reducible refine cA_ ?_ _) | (with_reducible refine cN_ ?_ _) | (with_reducible refine cD_ ?_)));(case side2=>exact HC0_2.out);(case side3=>repeat (first | exact (Kd.C_below HR1_2.out HB.out) | (with_reducible refine cA_ ?_ _) | (with_reducible refine cN_ ?_ _) | (with_reducible refine cD_ ?_)));(case side4=>exact HC1_2.out);rintro e w18 ⟨rfl,hb⟩;refine ⟨_,rfl,?_⟩;have n0_:=aM_ (blk_below (g:=gb329) (o:=.cells #[.string a0_0,.slice A0_1 l0_1.length c0_1,.slice A0_2 l0_2.length c0_2,.slice A0_3 l0_3.length c0_3] 35 (0,0)) (by exact kZ_ BK329) hb);have n1_:=aM_ (blk_below (g:=gb330) (o:=.cells #[.string a1_0,.slice A1_1 l1_1.length c1_1,.slice A1_2 l1_2.length c1_2,.slice A1_3 l1_3.length c1_3] 35 (0,0)) (by exact kZ_ BK330) hb);have n2_:=aM_ (bT_ (by exact bZ_ HB) hb);clear BK329;clear BK330;clear HB;have BK329:=n0_;have BK330:=n1_;have HB:=n2_;clear n0_ n1_ n2_;(try clear hb);(try clear hb2);(try clear hk);(try clear hi);have hcz19_0 : w18.cell? ⟨gb329,0,none⟩ = some (.string a0_0):=(kC_ BK329.out 0).trans rfl;have hcz19_1 : w18.cell? ⟨gb329,1,none⟩ = some (.slice A0_1 l0_1.length c0_1):=(kC_ BK329.out 1).trans rfl;have hcz19_2 : w18.cell? ⟨gb329,2,none⟩ = some (.slice A0_2 l0_2.length c0_2):=(kC_ BK329.out 2).trans rfl;have hcz19_3 : w18.cell? ⟨gb329,3,none⟩ = some (.slice A0_3 l0_3.length c0_3):=(kC_ BK329.out 3).trans rfl;have hfz19_0:=kF_ BK329.out 0;have hfz19_1:=kF_ BK329.out 1;have hfz19_2:=kF_ BK329.out 2;have hfz19_3:=kF_ BK329.out 3;have hcz20_0 : w18.cell? ⟨gb330,0,none⟩ = some (.string a1_0):=(kC_ BK330.out 0).trans rfl;have hcz20_1 : w18.cell? ⟨gb330,1,none⟩ = some (.slice A1_1 l1_1.length c1_1):=(kC_ BK330.out 1).trans rfl;have hcz20_2 : w18.cell? ⟨gb330,2,none⟩ = some (.slice A1_2 l1_2.length c1_2):=(kC_ BK330.out 2).trans rfl;have hcz20_3 : w18.cell? ⟨gb330,3,none⟩ = some (.slice A1_3 l1_3.length c1_3):=(kC_ BK330.out 3).trans rfl;have hfz20_0:=kF_ BK330.out 0;have hfz20_1:=kF_ BK330.out 1;have hfz20_2:=kF_ BK330.out 2;have hfz20_3:=kF_ BK330.out 3) | ((with_reducible refine gate_callee (f:=78) rfl ?_);refine goesL_ (some 26) rfl rfl Tryd.func78 (by kernel_rfl) rfl #[.slice A0_3 l0_3.length c0_3,.slice A1_3 l1_3.length c1_3] rfl (by (try simp only [mA_,mC_,mN_]);first | done | rfl | (simp only [lD_,lT_];rfl)) ?_;(with_reducible refine (laws_eqIndexS.calls k _ _ l0_3 _ _ l1_3 true _ ?side1 ?side2 ?side3 ?side4 A8.out).mono ?_);(case side1=>repeat (first | exact (Kd.C_below HR0_3.out HB.out) | (with_reducible refine cA_ ?_ _) | (with_reducible refine cN_ ?_ _) | (with_reducible refine cD_ ?_)));(case side2=>exact HC0_3.out);(case side3=>repeat (first | exact (Kd.C_below HR1_3.out HB.out) | (with_reducible refine cA_ ?_ _) | (with_reducible refine cN_ ?_ _) | (with_reducible refine cD_ ?_)));(case side4=>exact HC1_3.out);rintro e w21 ⟨rfl,hb⟩;refine ⟨_,rfl,?_⟩;have n0_:=aM_ (blk_below (g:=gb329) (o:=.cells #[.string a0_0,.slice A0_1 l0_1.length c0_1,.slice A0_2 l0_2.length c0_2,.slice A0_3 l0_3.length c0_3] 35 (0,0)) (by exact kZ_ BK329) hb);have n1_:=aM_ (blk_below (g:=gb330) (o:=.cells #[.string a1_0,.slice A1_1 l1_1.length c1_1,.slice A1_2 l1_2.length c1_2,.slice A1_3 l1_3.length c1_3] 35 (0,0)) (by exact kZ_ BK330) hb);have n2_:=aM_ (bT_ (by exact bZ_ HB) hb);clear BK329;clear BK330;clear HB;have BK329:=n0_;have BK330:=n1_;have HB:=n2_;clear n0_ n1_ n2_;(try clear hb);(try clear hb2);(try clear hk);(try clear hi)))
     go_ret
     exact ⟨by first | rfl | (simp [errW_none,errW_some] <;> rfl) | (simp [*, errW_none,errW_some] <;> rfl),by exact bZ_ HB⟩
    ·replace c9:=Bool.eq_false_iff.mpr c9
     subst c9
     have H1 : (some false) = some r:=by rw [if_neg (show ¬ (false = true) by decide)] at H;exact H
     clear H
     have H:=H1
     clear H1
     obtain rfl:=Option.some.inj H
     go_enter Tryd.func30,Tryd.ntmps30
     go_wp2_with (first | ((with_reducible refine gate_dst (N:=2) rfl ?_);refine box_event ?hg (N:=2) ?hd (cs:=#[.string a0_0,.slice A0_1 l0_1.length c0_1,.slice A0_2 l0_2.length c0_2,.slice A0_3 l0_3.length c0_3]) (t:=35) ?hr ?_;(case hd=>rfl);(case hg=>rfl);(case hr=>first | (go_simp;done) | (go_simp;rfl));intro gb329 hg w22 hbox hb;have n0_:=aM_ (bT_ (by exact bZ_ HB) hb);have n1_:=aM_ (hbox);have n2_:=aM_ ((by rw [hg];exact (bS_ (by exact bZ_ HB)) : w.heap.size ≤ gb329));have n3_:=aM_ ((by rw [hg];exact (bS_ (by exact bZ_ HB)) : w.heap.size ≤ gb329));clear HB;have HB:=n0_;have BK329:=n1_;have GW329:=n2_;have GE329:=n3_;clear n0_ n1_ n2_ n3_;clear hb hbox hg) | ((with_reducible refine gate_dst (N:=3) rfl ?_);refine box_event ?hg (N:=3) ?hd (cs:=#[.string a1_0,.slice A1_1 l1_1.length c1_1,.slice A1_2 l1_2.length c1_2,.slice A1_3 l1_3.length c1_3]) (t:=35) ?hr ?_;(case hd=>rfl);(case hg=>rfl);(case hr=>first | (go_simp;done) | (go_simp;rfl));intro gb330 hg w23 hbox hb;have n0_:=aM_ (blk_below (g:=gb329) (o:=.cells #[.string a0_0,.slice A0_1 l0_1.length c0_1,.slice A0_2 l0_2.length c0_2,.slice A0_3 l0_3.length c0_3] 35 (0,0)) (by exact kZ_ BK329) hb);have n1_:=aM_ (bT_ (by exact bZ_ HB) hb);have n2_:=aM_ (hbox);have n3_:=aM_ ((by rw [hg];exact (bS_ (by exact bZ_ HB)) : w.heap.size ≤ gb330));have n4_:=aM_ ((by rw [hg];exact (bS_ (by exact bZ_ HB)) : w.heap.size ≤ gb330));have n5_:=aM_ ((by rw [hg];exact nN_ (blk_lt (g:=gb329) (o:=.cells #[.string a0_0,.slice A0_1 l0_1.length c0_1,.slice A0_2 l0_2.length c0_2,.slice A0_3 l0_3.length c0_3] 35 (0,0)) (by exact kZ_ BK329)) : gb329 ≠ gb330));have n6_:=aM_ ((by rw [hg];exact Nat.ne_of_gt (blk_lt (g:=gb329) (o:=.cells #[.string a0_0,.slice A0_1 l0_1.length c0_1,.slice A0_2 l0_2.length c0_2,.slice A0_3 l0_3.length c0_3] 35 (0,0)) (by exact kZ_ BK329)) : gb330 ≠ gb329));clear BK329;clear HB;have BK329:=n0_;have HB:=n1_;have BK330:=n2_;have GW330:=n3_;have GE330:=n4_;have NB329_330:=n5_;have NB330_329:=n6_;clear n0_ n1_ n2_ n3_ n4_ n5_ n6_;clear hb hbox hg;have hnb24:=NB329_330.out;have hnc24:=NB330_329.out;have hcz25_0 : w23.cell? ⟨gb329,0,none⟩ = some (.string a0_0):=(kC_ BK329.out 0).trans rfl;have hcz25_1 : w23.cell? ⟨gb329,1,none⟩ = some (.slice A0_1 l0_1.length c0_1):=(kC_ BK329.out 1).trans rfl;have hcz25_2 : w23.cell? ⟨gb329,2,none⟩ = some (.slice A0_2 l0_2.length c0_2):=(kC_ BK329.out 2).trans rfl;have hcz25_3 : w23.cell? ⟨gb329,3,none⟩ = some (.slice A0_3 l0_3.length c0_3):=(kC_ BK329.out 3).trans rfl;have hfz25_0:=kF_ BK329.out 0;have hfz25_1:=kF_ BK329.out 1;have hfz25_2:=kF_ BK329.out 2;have hfz25_3:=kF_ BK329.out 3;have hcz26_0 : w23.cell? ⟨gb330,0,none⟩ = some (.string a1_0):=(kC_ BK330.out 0).trans rfl;have hcz26_1 : w23.cell? ⟨gb330,1,none⟩ = some (.slice A1_1 l1_1.length c1_1):=(kC_ BK330.out 1).trans rfl;have hcz26_2 : w23.cell? ⟨gb330,2,none⟩ = some (.slice A1_2 l1_2.length c1_2):=(kC_ BK330.out 2).trans rfl;have hcz26_3 : w23.cell? ⟨gb330,3,none⟩ = some (.slice A1_3 l1_3.length c1_3):=(kC_ BK330.out 3).trans rfl;have hfz26_0:=kF_ BK330.out 0;have hfz26_1:=kF_ BK330.out 1;have hfz26_2:=kF_ BK330.out 2;have hfz26_3:=kF_ BK330.out 3) | ((with_reducible refine gate_callee (f:=76) rfl ?_);refine goesL_ (some 14) rfl rfl Tryd.func76 (by kernel_rfl) rfl #[.slice A0_1 l0_1.length c0_1,.slice A1_1 l1_1.length c1_1] rfl (by (try simp only [mA_,mC_,mN_]);first | done | rfl | (simp only [lD_,lT_];rfl)) ?_;(with_reducible refine (laws_eqColS.calls k _ _ l0_1 _ _ l1_1 true _ ?side1 ?side2 ?side3 ?side4 A4.out).mono ?_);(case side1=>repeat (first | exact (Kd.C_below HR0_1.out HB.out) | (with_reducible refine cA_ ?_ _) | (with_reducible refine cN_ ?_ _) | (with_reducible refine cD_ ?_)));(case side2=>exact HC0_1.out);(case side3=>repeat (first | exact (Kd.C_below HR1_1.out HB.out) | (with_reducible refine cA_ ?_ _) | (with_reducible refine cN_ ?_ _) | (with_reducible refine cD_ ?_)));(case side4=>exact HC1_1.out);rintro e w27 ⟨rfl,hb⟩;refine ⟨_,rfl,?_⟩;have n0_:=aM_ (blk_below (g:=gb329) (o:=.cells #[.string a0_0,.slice A0_1 l0_1.length c0_1,.slice A0_2 l0_2.length c0_2,.slice A0_3 l0_3.length c0_3] 35 (0,0)) (by exact kZ_ BK329) hb);have n1_:=aM_ (blk_below (g:=gb330) (o:=.cells #[.string a1_0,.slice A1_1 l1_1.length c1_1,.slice A1_2 l1_2.length c1_2,.slice A1_3 l1_3.length c1_3] 35 (0,0)) (by exact kZ_ BK330) hb);have n2_:=aM_ (bT_ (by exact bZ_ HB) hb);clear BK329;clear BK330;clear HB;have BK329:=n0_;have BK330:=n1_;have HB:=n2_;clear n0_ n1_ n2_;(try clear hb);(try clear hb2);(try clear hk);(try clear hi);have hcz28_0 : w27.cell? ⟨gb329,0,none⟩ = some (.string a0_0):=(kC_ BK329.out 0).trans rfl;have hcz28_1 : w27.cell? ⟨gb329,1,none⟩ = some (.slice A0_1 l0_1.length c0_1):=(kC_ BK329.out 1).trans rfl;have hcz28_2 : w27.cell? ⟨gb329,2,none⟩ = some (.slice A0_2 l0_2.length c0_2):=(kC_ BK329.out 2).trans rfl;have hcz28_3 : w27.cell? ⟨gb329,3,none⟩ = some (.slice A0_3 l0_3.length c0_3):=(kC_ BK329.out 3).trans rfl;have hfz28_0:=kF_ BK329.out 0;have hfz28_1:=kF_ BK329.out 1;have hfz28_2:=kF_ BK329.out 2;have hfz28_3:=kF_ BK329.out 3;have hcz29_0 : w27.cell? ⟨gb330,0,none⟩ = some (.string a1_0):=(kC_ BK330.out 0).trans rfl;have hcz29_1 : w27.cell? ⟨gb330,1,none⟩ = some (.slice A1_1 l1_1.length c1_1):=(kC_ BK330.out 1).trans rfl;have hcz29_2 : w27.cell? ⟨gb330,2,none⟩ = some (.slice A1_2 l1_2.length c1_2):=(kC_ BK330.out 2).trans rfl;have hcz29_3 : w27.cell? ⟨gb330,3,none⟩ = some (.slice A1_3 l1_3.length c1_3):=(kC_ BK330.out 3).trans rfl;have hfz29_0:=kF_ BK330.out 0;have hfz29_1:=kF_ BK330.out 1;have hfz29_2:=kF_ BK330.out 2;have hfz29_3:=kF_ BK330.out 3) | ((with_reducible refine gate_callee (f:=77) rfl ?_);refine goesL_ (some 20) rfl rfl Tryd.func77 (by kernel_rfl) rfl #[.slice A0_2 l0_2.length c0_2,.slice A1_2 l1_2.length c1_2] rfl (by (try simp only [mA_,mC_,mN_]);first | done | rfl | (simp only [lD_,lT_];rfl)) ?_;(with_reducible refine (laws_eqByS.calls k _ _ l0_2 _ _ l1_2 true _ ?side1 ?side2 ?side3 ?side4 A6.out).mono ?_);(case side1=>repeat (first | exact (Kd.C_below HR0_2.out HB.out) | (with_reducible refine cA_ ?_ _) | (with_reducible refine cN_ ?_ _) | (with_reducible refine cD_ ?_)));(case side2=>exact HC0_2.out);(case side3=>repeat (first | exact (Kd.C_below HR1_2.out HB.out) | (with_reducible refine cA_ ?_ _) | (with_reducible refine cN_ ?_ _) | (with_reducible refine cD_ ?_)));(case side4=>exact HC1_2.out);rintro e w30 ⟨rfl,hb⟩;refine ⟨_,rfl,?_⟩;have n0_:=aM_ (blk_below (g:=gb329) (o:=.cells #[.string a0_0,.slice A0_1 l0_1.length c0_1,.slice A0_2 l0_2.length c0_2,.slice A0_3 l0_3.length c0_3] 35 (0,0)) (by exact kZ_ BK329) hb);have n1_:=aM_ (blk_below (g:=gb330) (o:=.cells #[.string a1_0,.slice A1_1 l1_1.length c1_1,.slice A1_2 l1_2.length c1_2,.slice A1_3 l1_3.length c1_3] 35 (0,0)) (by exact kZ_ BK330) hb);have n2_:=aM_ (bT_ (by exact bZ_ HB) hb);clear BK329;clear BK330;clear HB;have BK329:=n0_;have BK330:=n1_;have HB:=n2_;clear n0_ n1_ n2_;(try clear hb);(try clear hb2);(try clear hk);(try clear hi);have hcz31_0 : w30.cell? ⟨gb329,0,none⟩ = some (.string a0_0):=(kC_ BK329.out 0).trans rfl;have hcz31_1 : w30.cell? ⟨gb329,1,none⟩ = some (.slice A0_1 l0_1.length c0_1):=(kC_ BK329.out 1).trans rfl;have hcz31_2 : w30.cell? ⟨gb329,2,none⟩ = some (.slice A0_2 l0_2.length c0_2):=(kC_ BK329.out 2).trans rfl;have hcz31_3 : w30.cell? ⟨gb329,3,none⟩ = some (.slice A0_3 l0_3.length c0_3):=(kC_ BK329.out 3).trans rfl;have hfz31_0:=kF_ BK329.out 0;have hfz31_1:=kF_ BK329.out 1;have hfz31_2:=kF_ BK329.out 2;have hfz31_3:=kF_ BK329.out 3;have hcz32_0 : w30.cell? ⟨gb330,0,none⟩ = some (.string a1_0):=(kC_ BK330.out 0).trans rfl;have hcz32_1 : w30.cell? ⟨gb330,1,none⟩ = some (.slice A1_1 l1_1.length c1_1):=(kC_ BK330.out 1).trans rfl;have hcz32_2 : w30.cell? ⟨gb330,2,none⟩ = some (.slice A1_2 l1_2.length c1_2):=(kC_ BK330.out 2).trans rfl;have hcz32_3 : w30.cell? ⟨gb330,3,none⟩ = some (.slice A1_3 l1_3.length c1_3):=(kC_ BK330.out 3).trans rfl;have hfz32_0:=kF_ BK330.out 0;have hfz32_1:=kF_ BK330.out 1;have hfz32_2:=kF_ BK330.out 2;have hfz32_3:=kF_ BK330.out 3) | ((with_reducible refine gate_callee (f:=78) rfl ?_);refine goesL_ (some 26) rfl rfl Tryd.func78 (by kernel_rfl) rfl #[.slice A0_3 l0_3.length c0_3,.slice A1_3 l1_3.length c1_3] rfl (by (try simp only [mA_,mC_,mN_]);first | done | rfl | (simp only [lD_,lT_];rfl)) ?_;(with_reducible refine (laws_eqIndexS.calls k _ _ l0_3 _ _ l1_3 false _ ?side1 ?side2 ?side3 ?side4 A8.out).mono ?_);(case side1=>repeat (first | exact (Kd.C_below HR0_3.out HB.out) | (with_reducible refine cA_ ?_ _) | (with_reducible refine cN_ ?_ _) | (with_reducible refine cD_ ?_)));(case side2=>exact HC0_3.out);(case side3=>repeat (first | exact (Kd.C_below HR1_3.out HB.out) | (with_reducible refine cA_ ?_ _) | (with_reducible refine cN_ ?_ _) | (with_reducible refine cD_ ?_)));(case side4=>exact HC1_3.out);rintro e w33 ⟨rfl,hb⟩;refine ⟨_,rfl,?_⟩;have n0_:=aM_ (blk_below (g:=gb329) (o:=.cells #[.string a0_0,.slice A0_1 l0_1.length c0_1,.slice A0_2 l0_2.length c0_2,.slice A0_3 l0_3.length c0_3] 35 (0,0)) (by exact kZ_ BK329) hb);have n1_:=aM_ (blk_below (g:=gb330) (o:=.cells #[.string a1_0,.slice A1_1 l1_1.length c1_1,.slice A1_2 l1_2.length c1_2,.slice A1_3 l1_3.length c1_3] 35 (0,0)) (by exact kZ_ BK330) hb);have n2_:=aM_ (bT_ (by exact bZ_ HB) hb);clear BK329;clear BK330;clear HB;have BK329:=n0_;have BK330:=n1_;have HB:=n2_;clear n0_ n1_ n2_;(try clear hb);(try clear hb2);(try clear hk);(try clear hi)))
     go_ret
     exact ⟨by first | rfl | (simp [errW_none,errW_some] <;> rfl) | (simp [*, errW_none,errW_some] <;> rfl),by exact bZ_ HB⟩
   ·replace c7:=Bool.eq_false_iff.mpr c7
    subst c7
    have H1 : (some false) = some r:=by rw [if_neg (show ¬ (false = true) by decide)] at H;exact H
    clear H
    have H:=H1
    clear H1
    obtain rfl:=Option.some.inj H
    go_enter Tryd.func30,Tryd.ntmps30
    go_wp2_with (first | ((with_reducible refine gate_dst (N:=2) rfl ?_);refine box_event ?hg (N:=2) ?hd (cs:=#[.string a0_0,.slice A0_1 l0_1.length c0_1,.slice A0_2 l0_2.length c0_2,.slice A0_3 l0_3.length c0_3]) (t:=35) ?hr ?_;(case hd=>rfl);(case hg=>rfl);(case hr=>first | (go_simp;done) | (go_simp;rfl));intro gb329 hg w34 hbox hb;have n0_:=aM_ (bT_ (by exact bZ_ HB) hb);have n1_:=aM_ (hbox);have n2_:=aM_ ((by rw [hg];exact (bS_ (by exact bZ_ HB)) : w.heap.size ≤ gb329));have n3_:=aM_ ((by rw [hg];exact (bS_ (by exact bZ_ HB)) : w.heap.size ≤ gb329));clear HB;have HB:=n0_;have BK329:=n1_;have GW329:=n2_;have GE329:=n3_;clear n0_ n1_ n2_ n3_;clear hb hbox hg) | ((with_reducible refine gate_dst (N:=3) rfl ?_);refine box_event ?hg (N:=3) ?hd (cs:=#[.string a1_0,.slice A1_1 l1_1.length c1_1,.slice A1_2 l1_2.length c1_2,.slice A1_3 l1_3.length c1_3]) (t:=35) ?hr ?_;(case hd=>rfl);(case hg=>rfl);(case hr=>first | (go_simp;done) | (go_simp;rfl));intro gb330 hg w35 hbox hb;have n0_:=aM_ (blk_below (g:=gb329) (o:=.cells #[.string a0_0,.slice A0_1 l0_1.length c0_1,.slice A0_2 l0_2.length c0_2,.slice A0_3 l0_3.length c0_3] 35 (0,0)) (by exact kZ_ BK329) hb);have n1_:=aM_ (bT_ (by exact bZ_ HB) hb);have n2_:=aM_ (hbox);have n3_:=aM_ ((by rw [hg];exact (bS_ (by exact bZ_ HB)) : w.heap.size ≤ gb330));have n4_:=aM_ ((by rw [hg];exact (bS_ (by exact bZ_ HB)) : w.heap.size ≤ gb330));have n5_:=aM_ ((by rw [hg];exact nN_ (blk_lt (g:=gb329) (o:=.cells #[.string a0_0,.slice A0_1 l0_1.length c0_1,.slice A0_2 l0_2.length c0_2,.slice A0_3 l0_3.length c0_3] 35 (0,0)) (by exact kZ_ BK329)) : gb329 ≠ gb330));have n6_:=aM_ ((by rw [hg];exact Nat.ne_of_gt (blk_lt (g:=gb329) (o:=.cells #[.string a0_0,.slice A0_1 l0_1.length c0_1,.slice A0_2 l0_2.length c0_2,.slice A0_3 l0_3.length c0_3] 35 (0,0)) (by exact kZ_ BK329)) : gb330 ≠ gb329));clear BK329;clear HB;have BK329:=n0_;have HB:=n1_;have BK330:=n2_;have GW330:=n3_;have GE330:=n4_;have NB329_330:=n5_;have NB330_329:=n6_;clear n0_ n1_ n2_ n3_ n4_ n5_ n6_;clear hb hbox hg;have hnb36:=NB329_330.out;have hnc36:=NB330_329.out;have hcz37_0 : w35.cell? ⟨gb329,0,none⟩ = some (.string a0_0):=(kC_ BK329.out 0).trans rfl;have hcz37_1 : w35.cell? ⟨gb329,1,none⟩ = some (.slice A0_1 l0_1.length c0_1):=(kC_ BK329.out 1).trans rfl;have hcz37_2 : w35.cell? ⟨gb329,2,none⟩ = some (.slice A0_2 l0_2.length c0_2):=(kC_ BK329.out 2).trans rfl;have hcz37_3 : w35.cell? ⟨gb329,3,none⟩ = some (.slice A0_3 l0_3.length c0_3):=(kC_ BK329.out 3).trans rfl;have hfz37_0:=kF_ BK329.out 0;have hfz37_1:=kF_ BK329.out 1;have hfz37_2:=kF_ BK329.out 2;have hfz37_3:=kF_ BK329.out 3;have hcz38_0 : w35.cell? ⟨gb330,0,none⟩ = some (.string a1_0):=(kC_ BK330.out 0).trans rfl;have hcz38_1 : w35.cell? ⟨gb330,1,none⟩ = some (.slice A1_1 l1_1.length c1_1):=(kC_ BK330.out 1).trans rfl;have hcz38_2 : w35.cell? ⟨gb330,2,none⟩ = some (.slice A1_2 l1_2.length c1_2):=(kC_ BK330.out 2).trans rfl;have hcz38_3 : w35.cell? ⟨gb330,3,none⟩ = some (.slice A1_3 l1_3.length c1_3):=(kC_ BK330.out 3).trans rfl;have hfz38_0:=kF_ BK330.out 0;have hfz38_1:=kF_ BK330.out 1;have hfz38_2:=kF_ BK330.out 2;have hfz38_3:=kF_ BK330.out 3) | ((with_reducible refine gate_callee (f:=76) rfl ?_);refine goesL_ (some 14) rfl rfl Tryd.func76 (by kernel_rfl) rfl #[.slice A0_1 l0_1.length c0_1,.slice A1_1 l1_1.length c1_1] rfl (by (try simp only [mA_,mC_,mN_]);first | done | rfl | (simp only [lD_,lT_];rfl)) ?_;(with_reducible refine (laws_eqColS.calls k _ _ l0_1 _ _ l1_1 true _ ?side1 ?side2 ?side3 ?side4 A4.out).mono ?_);(case side1=>repeat (first | exact (Kd.C_below HR0_1.out HB.out) | (with_reducible refine cA_ ?_ _) | (with_reducible refine cN_ ?_ _) | (with_reducible refine cD_ ?_)));(case side2=>exact HC0_1.out);(case side3=>repeat (first | exact (Kd.C_below HR1_1.out HB.out) | (with_reducible refine cA_ ?_ _) | (with_reducible refine cN_ ?_ _) | (with_reducible refine cD_ ?_)));(case side4=>exact HC1_1.out);rintro e w39 ⟨rfl,hb⟩;refine ⟨_,rfl,?_⟩;have n0_:=aM_ (blk_below (g:=gb329) (o:=.cells #[.string a0_0,.slice A0_1 l0_1.length c0_1,.slice A0_2 l0_2.length c0_2,.slice A0_3 l0_3.length c0_3] 35 (0,0)) (by exact kZ_ BK329) hb);have n1_:=aM_ (blk_below (g:=gb330) (o:=.cells #[.string a1_0,.slice A1_1 l1_1.length c1_1,.slice A1_2 l1_2.length c1_2,.slice A1_3 l1_3.length c1_3] 35 (0,0)) (by exact kZ_ BK330) hb);have n2_:=aM_ (bT_ (by exact bZ_ HB) hb);clear BK329;clear BK330;clear HB;have BK329:=n0_;have BK330:=n1_;have HB:=n2_;clear n0_ n1_ n2_;(try clear hb);(try clear hb2);(try clear hk);(try clear hi);have hcz40_0 : w39.cell? ⟨gb329,0,none⟩ = some (.string a0_0):=(kC_ BK329.out 0).trans rfl;have hcz40_1 : w39.cell? ⟨gb329,1,none⟩ = some (.slice A0_1 l0_1.length c0_1):=(kC_ BK329.out 1).trans rfl;have hcz40_2 : w39.cell? ⟨gb329,2,none⟩ = some (.slice A0_2 l0_2.length c0_2):=(kC_ BK329.out 2).trans rfl;have hcz40_3 : w39.cell? ⟨gb329,3,none⟩ = some (.slice A0_3 l0_3.length c0_3):=(kC_ BK329.out 3).trans rfl;have hfz40_0:=kF_ BK329.out 0;have hfz40_1:=kF_ BK329.out 1;have hfz40_2:=kF_ BK329.out 2;have hfz40_3:=kF_ BK329.out 3;have hcz41_0 : w39.cell? ⟨gb330,0,none⟩ = some (.string a1_0):=(kC_ BK330.out 0).trans rfl;have hcz41_1 : w39.cell? ⟨gb330,1,none⟩ = some (.slice A1_1 l1_1.length c1_1):=(kC_ BK330.out 1).trans rfl;have hcz41_2 : w39.cell? ⟨gb330,2,none⟩ = some (.slice A1_2 l1_2.length c1_2):=(kC_ BK330.out 2).trans rfl;have hcz41_3 : w39.cell? ⟨gb330,3,none⟩ = some (.slice A1_3 l1_3.length c1_3):=(kC_ BK330.out 3).trans rfl;have hfz41_0:=kF_ BK330.out 0;have hfz41_1:=kF_ BK330.out 1;have hfz41_2:=kF_ BK330.out 2;have hfz41_3:=kF_ BK330.out 3) | ((with_reducible refine gate_callee (f:=77) rfl ?_);refine goesL_ (some 20) rfl rfl Tryd.func77 (by kernel_rfl) rfl #[.slice A0_2 l0_2.length c0_2,.slice A1_2 l1_2.length c1_2] rfl (by (try simp only [mA_,mC_,mN_]);first | done | rfl | (simp only [lD_,lT_];rfl)) ?_;(with_reducible refine (laws_eqByS.calls k _ _ l0_2 _ _ l1_2 false _ ?side1 ?side2 ?side3 ?side4 A6.out).mono ?_);(case side1=>repeat (first | exact (Kd.C_below HR0_2.out HB.out) | (with_reducible refine cA_ ?_ _) | (with_reducible refine cN_ ?_ _) | (with_reducible refine cD_ ?_)));(case side2=>exact HC0_2.out);(case side3=>repeat (first | exact (Kd.C_below HR1_2.out HB.out) | (with_reducible refine cA_ ?_ _) | (with_reducible refine cN_ ?_ _) | (with_reducible refine cD_ ?_)));(case side4=>exact HC1_2.out);rintro e w42 ⟨rfl,hb⟩;refine ⟨_,rfl,?_⟩;have n0_:=aM_ (blk_below (g:=gb329) (o:=.cells #[.string a0_0,.slice A0_1 l0_1.length c0_1,.slice A0_2 l0_2.length c0_2,.slice A0_3 l0_3.length c0_3] 35 (0,0)) (by exact kZ_ BK329) hb);have n1_:=aM_ (blk_below (g:=gb330) (o:=.cells #[.string a1_0,.slice A1_1 l1_1.length c1_1,.slice A1_2 l1_2.length c1_2,.slice A1_3 l1_3.length c1_3] 35 (0,0)) (by exact kZ_ BK330) hb);have n2_:=aM_ (bT_ (by exact bZ_ HB) hb);clear BK329;clear BK330;clear HB;have BK329:=n0_;have BK330:=n1_;have HB:=n2_;clear n0_ n1_ n2_;(try clear hb);(try clear hb2);(try clear hk);(try clear hi)))
    go_ret
    exact ⟨by first | rfl | (simp [errW_none,errW_some] <;> rfl) | (simp [*, errW_none,errW_some] <;> rfl),by exact bZ_ HB⟩
  ·replace c5:=Bool.eq_false_iff.mpr c5
   subst c5
   have H1 : (some false) = some r:=by rw [if_neg (show ¬ (false = true) by decide)] at H;exact H
   clear H
   have H:=H1
   clear H1
   obtain rfl:=Option.some.inj H
   go_enter Tryd.func30,Tryd.ntmps30
   go_wp2_with (first | ((with_reducible refine gate_dst (N:=2) rfl ?_);refine box_event ?hg (N:=2) ?hd (cs:=#[.string a0_0,.slice A0_1 l0_1.length c0_1,.slice A0_2 l0_2.length c0_2,.slice A0_3 l0_3.length c0_3]) (t:=35) ?hr ?_;(case hd=>rfl);(case hg=>rfl);(case hr=>first | (go_simp;done) | (go_simp;rfl));intro gb329 hg w43 hbox hb;have n0_:=aM_ (bT_ (by exact bZ_ HB) hb);have n1_:=aM_ (hbox);have n2_:=aM_ ((by rw [hg];exact (bS_ (by exact bZ_ HB)) : w.heap.size ≤ gb329));have n3_:=aM_ ((by rw [hg];exact (bS_ (by exact bZ_ HB)) : w.heap.size ≤ gb329));clear HB;have HB:=n0_;have BK329:=n1_;have GW329:=n2_;have GE329:=n3_;clear n0_ n1_ n2_ n3_;clear hb hbox hg) | ((with_reducible refine gate_dst (N:=3) rfl ?_);refine box_event ?hg (N:=3) ?hd (cs:=#[.string a1_0,.slice A1_1 l1_1.length c1_1,.slice A1_2 l1_2.length c1_2,.slice A1_3 l1_3.length c1_3]) (t:=35) ?hr ?_;(case hd=>rfl);(case hg=>rfl);(case hr=>first | (go_simp;done) | (go_simp;rfl));intro gb330 hg w44 hbox hb;have n0_:=aM_ (blk_below (g:=gb329) (o:=.cells #[.string a0_0,.slice A0_1 l0_1.length c0_1,.slice A0_2 l0_2.length c0_2,.slice A0_3 l0_3.length c0_3] 35 (0,0)) (by exact kZ_ BK329) hb);have n1_:=aM_ (bT_ (by exact bZ_ HB) hb);have n2_:=aM_ (hbox);have n3_:=aM_ ((by rw [hg];exact (bS_ (by exact bZ_ HB)) : w.heap.size ≤ gb330));have n4_:=aM_ ((by rw [hg];exact (bS_ (by exact bZ_ HB)) : w.heap.size ≤ gb330));have n5_:=aM_ ((by rw [hg];exact nN_ (blk_lt (g:=gb329) (o:=.cells #[.string a0_0,.slice A0_1 l0_1.length c0_1,.slice A0_2 l0_2.length c0_2,.slice A0_3 l0_3.length c0_3] 35 (0,0)) (by exact kZ_ BK329)) : gb329 ≠ gb330));have n6_:=aM_ ((by rw [hg];exact Nat.ne_of_gt (blk_lt (g:=gb329) (o:=.cells #[.string a0_0,.slice A0_1 l0_1.length c0_1,.slice A0_2 l0_2.length c0_2,.slice A0_3 l0_3.length c0_3] 35 (0,0)) (by exact kZ_ BK329)) : gb330 ≠ gb329));clear BK329;clear HB;have BK329:=n0_;have HB:=n1_;have BK330:=n2_;have GW330:=n3_;have GE330:=n4_;have NB329_330:=n5_;have NB330_329:=n6_;clear n0_ n1_ n2_ n3_ n4_ n5_ n6_;clear hb hbox hg;have hnb45:=NB329_330.out;have hnc45:=NB330_329.out;have hcz46_0 : w44.cell? ⟨gb329,0,none⟩ = some (.string a0_0):=(kC_ BK329.out 0).trans rfl;have hcz46_1 : w44.cell? ⟨gb329,1,none⟩ = some (.slice A0_1 l0_1.length c0_1):=(kC_ BK329.out 1).trans rfl;have hcz46_2 : w44.cell? ⟨gb329,2,none⟩ = some (.slice A0_2 l0_2.length c0_2):=(kC_ BK329.out 2).trans rfl;have hcz46_3 : w44.cell? ⟨gb329,3,none⟩ = some (.slice A0_3 l0_3.length c0_3):=(kC_ BK329.out 3).trans rfl;have hfz46_0:=kF_ BK329.out 0;have hfz46_1:=kF_ BK329.out 1;have hfz46_2:=kF_ BK329.out 2;have hfz46_3:=kF_ BK329.out 3;have hcz47_0 : w44.cell? ⟨gb330,0,none⟩ = some (.string a1_0):=(kC_ BK330.out 0).trans rfl;have hcz47_1 : w44.cell? ⟨gb330,1,none⟩ = some (.slice A1_1 l1_1.length c1_1):=(kC_ BK330.out 1).trans rfl;have hcz47_2 : w44.cell? ⟨gb330,2,none⟩ = some (.slice A1_2 l1_2.length c1_2):=(kC_ BK330.out 2).trans rfl;have hcz47_3 : w44.cell? ⟨gb330,3,none⟩ = some (.slice A1_3 l1_3.length c1_3):=(kC_ BK330.out 3).trans rfl;have hfz47_0:=kF_ BK330.out 0;have hfz47_1:=kF_ BK330.out 1;have hfz47_2:=kF_ BK330.out 2;have hfz47_3:=kF_ BK330.out 3) | ((with_reducible refine gate_callee (f:=76) rfl ?_);refine goesL_ (some 14) rfl rfl Tryd.func76 (by kernel_rfl) rfl #[.slice A0_1 l0_1.length c0_1,.slice A1_1 l1_1.length c1_1] rfl (by (try simp only [mA_,mC_,mN_]);first | done | rfl | (simp only [lD_,lT_];rfl)) ?_;(with_reducible refine (laws_eqColS.calls k _ _ l0_1 _ _ l1_1 false _ ?side1 ?side2 ?side3 ?side4 A4.out).mono ?_);(case side1=>repeat (first | exact (Kd.C_below HR0_1.out HB.out) | (with_reducible refine cA_ ?_ _) | (with_reducible refine cN_ ?_ _) | (with_reducible refine cD_ ?_)));(case side2=>exact HC0_1.out);(case side3=>repeat (first | exact (Kd.C_below HR1_1.out HB.out) | (with_reducible refine cA_ ?_ _) | (with_reducible refine cN_ ?_ _) | (with_reducible refine cD_ ?_)));(case side4=>exact HC1_1.out);rintro e w48 ⟨rfl,hb⟩;refine ⟨_,rfl,?_⟩;have n0_:=aM_ (blk_below (g:=gb329) (o:=.cells #[.string a0_0,.slice A0_1 l0_1.length c0_1,.slice A0_2 l0_2.length c0_2,.slice A0_3 l0_3.length c0_3] 35 (0,0)) (by exact kZ_ BK329) hb);have n1_:=aM_ (blk_below (g:=gb330) (o:=.cells #[.string a1_0,.slice A1_1 l1_1.length c1_1,.slice A1_2 l1_2.length c1_2,.slice A1_3 l1_3.length c1_3] 35 (0,0)) (by exact kZ_ BK330) hb);have n2_:=aM_ (bT_ (by exact bZ_ HB) hb);clear BK329;clear BK330;clear HB;have BK329:=n0_;have BK330:=n1_;have HB:=n2_;clear n0_ n1_ n2_;(try clear hb);(try clear hb2);(try clear hk);(try clear hi)))
   go_ret
   exact ⟨by first | rfl | (simp [errW_none,errW_some] <;> rfl) | (simp [*, errW_none,errW_some] <;> rfl),by exact bZ_ HB⟩
 ·rw [if_neg c3] at H
  have c3b0 : (a0_0.toList == a1_0.toList) = false:=beq_eq_false_iff_ne.mpr c3
  have c3b1 : (a0_0.toList != a1_0.toList) = true:=bne_iff_ne.mpr c3
  obtain rfl:=Option.some.inj H
  go_enter Tryd.func30,Tryd.ntmps30
  go_wp2_with (first | ((with_reducible refine gate_dst (N:=2) rfl ?_);refine box_event ?hg (N:=2) ?hd (cs:=#[.string a0_0,.slice A0_1 l0_1.length c0_1,.slice A0_2 l0_2.length c0_2,.slice A0_3 l0_3.length c0_3]) (t:=35) ?hr ?_;(case hd=>rfl);(case hg=>rfl);(case hr=>first | (go_simp;done) | (go_simp;rfl));intro gb329 hg w49 hbox hb;have n0_:=aM_ (bT_ (by exact bZ_ HB) hb);have n1_:=aM_ (hbox);have n2_:=aM_ ((by rw [hg];exact (bS_ (by exact bZ_ HB)) : w.heap.size ≤ gb329));have n3_:=aM_ ((by rw [hg];exact (bS_ (by exact bZ_ HB)) : w.heap.size ≤ gb329));clear HB;have HB:=n0_;have BK329:=n1_;have GW329:=n2_;have GE329:=n3_;clear n0_ n1_ n2_ n3_;clear hb hbox hg) | ((with_reducible refine gate_dst (N:=3) rfl ?_);refine box_event ?hg (N:=3) ?hd (cs:=#[.string a1_0,.slice A1_1 l1_1.length c1_1,.slice A1_2 l1_2.length c1_2,.slice A1_3 l1_3.length c1_3]) (t:=35) ?hr ?_;(case hd=>rfl);(case hg=>rfl);(case hr=>first | (go_simp;done) | (go_simp;rfl));intro gb330 hg w50 hbox hb;have n0_:=aM_ (blk_below (g:=gb329) (o:=.cells #[.string a0_0,.slice A0_1 l0_1.length c0_1,.slice A0_2 l0_2.length c0_2,.slice A0_3 l0_3.length c0_3] 35 (0,0)) (by exact kZ_ BK329) hb);have n1_:=aM_ (bT_ (by exact bZ_ HB) hb);have n2_:=aM_ (hbox);have n3_:=aM_ ((by rw [hg];exact (bS_ (by exact bZ_ HB)) : w.heap.size ≤ gb330));have n4_:=aM_ ((by rw [hg];exact (bS_ (by exact bZ_ HB)) : w.heap.size ≤ gb330));have n5_:=aM_ ((by rw [hg];exact nN_ (blk_lt (g:=gb329) (o:=.cells #[.string a0_0,.slice A0_1 l0_1.length c0_1,.slice A0_2 l0_2.length c0_2,.slice A0_3 l0_3.length c0_3] 35 (0,0)) (by exact kZ_ BK329)) : gb329 ≠ gb330));have n6_:=aM_ ((by rw [hg];exact Nat.ne_of_gt (blk_lt (g:=gb329) (o:=.cells #[.string a0_0,.slice A0_1 l0_1.length c0_1,.slice A0_2 l0_2.length c0_2,.slice A0_3 l0_3.length c0_3] 35 (0,0)) (by exact kZ_ BK329)) : gb330 ≠ gb329));clear BK329;clear HB;have BK329:=n0_;have HB:=n1_;have BK330:=n2_;have GW330:=n3_;have GE330:=n4_;have NB329_330:=n5_;have NB330_329:=n6_;clear n0_ n1_ n2_ n3_ n4_ n5_ n6_;clear hb hbox hg;have hnb51:=NB329_330.out;have hnc51:=NB330_329.out;have hcz52_0 : w50.cell? ⟨gb329,0,none⟩ = some (.string a0_0):=(kC_ BK329.out 0).trans rfl;have hcz52_1 : w50.cell? ⟨gb329,1,none⟩ = some (.slice A0_1 l0_1.length c0_1):=(kC_ BK329.out 1).trans rfl;have hcz52_2 : w50.cell? ⟨gb329,2,none⟩ = some (.slice A0_2 l0_2.length c0_2):=(kC_ BK329.out 2).trans rfl;have hcz52_3 : w50.cell? ⟨gb329,3,none⟩ = some (.slice A0_3 l0_3.length c0_3):=(kC_ BK329.out 3).trans rfl;have hfz52_0:=kF_ BK329.out 0;have hfz52_1:=kF_ BK329.out 1;have hfz52_2:=kF_ BK329.out 2;have hfz52_3:=kF_ BK329.out 3;have hcz53_0 : w50.cell? ⟨gb330,0,none⟩ = some (.string a1_0):=(kC_ BK330.out 0).trans rfl;have hcz53_1 : w50.cell? ⟨gb330,1,none⟩ = some (.slice A1_1 l1_1.length c1_1):=(kC_ BK330.out 1).trans rfl;have hcz53_2 : w50.cell? ⟨gb330,2,none⟩ = some (.slice A1_2 l1_2.length c1_2):=(kC_ BK330.out 2).trans rfl;have hcz53_3 : w50.cell? ⟨gb330,3,none⟩ = some (.slice A1_3 l1_3.length c1_3):=(kC_ BK330.out 3).trans rfl;have hfz53_0:=kF_ BK330.out 0;have hfz53_1:=kF_ BK330.out 1;have hfz53_2:=kF_ BK330.out 2;have hfz53_3:=kF_ BK330.out 3))
  go_ret
  exact ⟨by first | rfl | (simp [errW_none,errW_some] <;> rfl) | (simp [*, errW_none,errW_some] <;> rfl),by exact bZ_ HB⟩
def laws_FnExactDefText.f (k : Nat) (a0_0 : ByteArray) (l0_1 : List (S131)) (l0_2 : List (S137)) (l0_3 : List (S134)) : Option (Bool):=(laws_szDef.f k a0_0 l0_1 l0_2 l0_3 1048576).bind fun t335=>(if t335 < 0 then (some true) else ((laws_toDef.f k a0_0 l0_1 l0_2 l0_3).bind fun bt336=>((spec_DefText.f k bt336.1 bt336.2.1 bt336.2.2.1 bt336.2.2.2).bind fun t346=>((laws_toDef.f k a0_0 l0_1 l0_2 l0_3).bind fun bt347=>((impl_DefText.f k bt347.1 bt347.2.1 bt347.2.2.1 bt347.2.2.2).bind fun t358=>(if t358.toList = t346.toList then ((laws_toDef.f k a0_0 l0_1 l0_2 l0_3).bind fun bt359=>((laws_eqDef.f k bt347.1 bt347.2.1 bt347.2.2.1 bt347.2.2.2 bt359.1 bt359.2.1 bt359.2.2.1 bt359.2.2.2).bind fun t369=>(if t369 = true then (some true) else (some false)))) else (some false)))))))
theorem laws_FnExactDefText.mono : ∀ a0 a1 a2 a3 k,LeO (laws_FnExactDefText.f k a0 a1 a2 a3) (laws_FnExactDefText.f (k + 1) a0 a1 a2 a3):=by
 intro a0 a1 a2 a3 k
 unfold laws_FnExactDefText.f
 repeat' first
   | (with_reducible exact impl_DefText.mono _ _ _ _ _)
   | (with_reducible exact laws_eqDef.mono _ _ _ _ _ _ _ _ _)
   | (with_reducible exact laws_szDef.mono _ _ _ _ _ _)
   | (with_reducible exact laws_toDef.mono _ _ _ _ _)
   | (with_reducible exact spec_DefText.mono _ _ _ _ _)
   | (with_reducible exact LeO.refl _)
   | (with_reducible exact LeO.none _)
   | (with_reducible refine LeO.ite ?_ ?_)
   | (with_reducible refine LeO.bind ?_ (fun _=>?_))
   | exact impl_DefText.mono _ _ _ _ _
   | exact laws_eqDef.mono _ _ _ _ _ _ _ _ _
   | exact laws_szDef.mono _ _ _ _ _ _
   | exact laws_toDef.mono _ _ _ _ _
   | exact spec_DefText.mono _ _ _ _ _
   | exact LeO.none _
   | refine LeO.ite ?_ ?_
   | refine LeO.bind ?_ (fun _=>?_)
set_option maxHeartbeats 8000000 in
set_option maxRecDepth 100000 in
theorem laws_FnExactDefText.calls (k : Nat) (a0_0 : ByteArray) (A0_1 : Option Addr) (c0_1 : Nat) (l0_1 : List (S131)) (A0_2 : Option Addr) (c0_2 : Nat) (l0_2 : List (S137)) (A0_3 : Option Addr) (c0_3 : Nat) (l0_3 : List (S134)) (r : Bool) (w : World) (hr0_1 : Kd.C k131 w A0_1 l0_1.length l0_1) (hc0_1 : l0_1.length ≤ c0_1) (hr0_2 : Kd.C k137 w A0_2 l0_2.length l0_2) (hc0_2 : l0_2.length ≤ c0_2) (hr0_3 : Kd.C k134 w A0_3 l0_3.length l0_3) (hc0_3 : l0_3.length ≤ c0_3) (hr_ : Aside0 (r = true)) (h : laws_FnExactDefText.f k a0_0 l0_1 l0_2 l0_3 = some r) :
  Calls Tryd.prog 5 #[.agg #[.string a0_0,.slice A0_1 l0_1.length c0_1,.slice A0_2 l0_2.length c0_2,.slice A0_3 l0_3.length c0_3]] w fun e w'=>e = .returned (.bool r) ∧ Below w.heap.size w w':=by
 have hu46:=Tryd.underlying46
 have hu35:=Tryd.underlying35
 have HR0_1:=aM_ hr0_1
 have HC0_1:=aM_ hc0_1
 clear hr0_1 hc0_1
 have HR0_2:=aM_ hr0_2
 have HC0_2:=aM_ hc0_2
 clear hr0_2 hc0_2
 have HR0_3:=aM_ hr0_3
 have HC0_3:=aM_ hc0_3
 clear hr0_3 hc0_3
 have HB:=aM_ (Below.refl w.heap.size w)
 have H : ((laws_szDef.f k a0_0 l0_1 l0_2 l0_3 1048576).bind fun t335=>(if t335 < 0 then (some true) else ((laws_toDef.f k a0_0 l0_1 l0_2 l0_3).bind fun bt336=>((spec_DefText.f k bt336.1 bt336.2.1 bt336.2.2.1 bt336.2.2.2).bind fun t346=>((laws_toDef.f k a0_0 l0_1 l0_2 l0_3).bind fun bt347=>((impl_DefText.f k bt347.1 bt347.2.1 bt347.2.2.1 bt347.2.2.2).bind fun t358=>(if t358.toList = t346.toList then ((laws_toDef.f k a0_0 l0_1 l0_2 l0_3).bind fun bt359=>((laws_eqDef.f k bt347.1 bt347.2.1 bt347.2.2.1 bt347.2.2.2 bt359.1 bt359.2.1 bt359.2.2.1 bt359.2.2.2).bind fun t369=>(if t369 = true then (some true) else (some false)))) else (some false)))))))) = some r:=h
 clear h
 replace H:=oB_ H
 obtain ⟨t335,A20,H⟩:=H
 replace H : (if t335 < 0 then (some true) else ((laws_toDef.f k a0_0 l0_1 l0_2 l0_3).bind fun bt336=>((spec_DefText.f k bt336.1 bt336.2.1 bt336.2.2.1 bt336.2.2.2).bind fun t346=>((laws_toDef.f k a0_0 l0_1 l0_2 l0_3).bind fun bt347=>((impl_DefText.f k bt347.1 bt347.2.1 bt347.2.2.1 bt347.2.2.2).bind fun t358=>(if t358.toList = t346.toList then ((laws_toDef.f k a0_0 l0_1 l0_2 l0_3).bind fun bt359=>((laws_eqDef.f k bt347.1 bt347.2.1 bt347.2.2.1 bt347.2.2.2 bt359.1 bt359.2.1 bt359.2.2.1 bt359.2.2.2).bind fun t369=>(if t369 = true then (some true) else (some false)))) else (some false))))))) = some r:=H
 have A2:=aM_ A20
 clear A20
 by_cases c3 : t335 < 0
 ·rw [if_pos c3] at H
  have c3b0 : decide (t335 < 0) = true:=decide_eq_true c3
  clear c3
  obtain rfl:=Option.some.inj H
  go_enter Tryd.func5,Tryd.ntmps5
  go_wp2_with (first | ((with_reducible refine gate_dst (N:=1) rfl ?_);refine box_event ?hg (N:=1) ?hd (cs:=#[.string a0_0,.slice A0_1 l0_1.length c0_1,.slice A0_2 l0_2.length c0_2,.slice A0_3 l0_3.length c0_3]) (t:=46) ?hr ?_;(case hd=>rfl);(case hg=>rfl);(case hr=>first | (go_simp;done) | (go_simp;rfl));intro gb334 hg w4 hbox hb;have n0_:=aM_ (bT_ (by exact bZ_ HB) hb);have n1_:=aM_ (hbox);have n2_:=aM_ ((by rw [hg];exact (bS_ (by exact bZ_ HB)) : w.heap.size ≤ gb334));have n3_:=aM_ ((by rw [hg];exact (bS_ (by exact bZ_ HB)) : w.heap.size ≤ gb334));clear HB;have HB:=n0_;have BK334:=n1_;have GW334:=n2_;have GE334:=n3_;clear n0_ n1_ n2_ n3_;clear hb hbox hg;have hcz5_0 : w4.cell? ⟨gb334,0,none⟩ = some (.string a0_0):=(kC_ BK334.out 0).trans rfl;have hcz5_1 : w4.cell? ⟨gb334,1,none⟩ = some (.slice A0_1 l0_1.length c0_1):=(kC_ BK334.out 1).trans rfl;have hcz5_2 : w4.cell? ⟨gb334,2,none⟩ = some (.slice A0_2 l0_2.length c0_2):=(kC_ BK334.out 2).trans rfl;have hcz5_3 : w4.cell? ⟨gb334,3,none⟩ = some (.slice A0_3 l0_3.length c0_3):=(kC_ BK334.out 3).trans rfl;have hfz5_0:=kF_ BK334.out 0;have hfz5_1:=kF_ BK334.out 1;have hfz5_2:=kF_ BK334.out 2;have hfz5_3:=kF_ BK334.out 3) | ((with_reducible refine gate_callee (f:=28) rfl ?_);refine goesL_ (some 9) rfl rfl Tryd.func28 (by kernel_rfl) rfl #[.agg #[.string a0_0,.slice A0_1 l0_1.length c0_1,.slice A0_2 l0_2.length c0_2,.slice A0_3 l0_3.length c0_3],.int .i64 1048576] rfl (by (try simp only [mA_,mC_,mN_]);first | done | rfl | (simp only [lD_,lT_];rfl)) ?_;(with_reducible refine (laws_szDef.calls k a0_0 _ _ l0_1 _ _ l0_2 _ _ l0_3 1048576 t335 _ ?side1 ?side2 ?side3 ?side4 ?side5 ?side6 A2.out).mono ?_);(case side1=>repeat (first | exact (Kd.C_below HR0_1.out HB.out) | (with_reducible refine cA_ ?_ _) | (with_reducible refine cN_ ?_ _) | (with_reducible refine cD_ ?_)));(case side2=>exact HC0_1.out);(case side3=>repeat (first | exact (Kd.C_below HR0_2.out HB.out) | (with_reducible refine cA_ ?_ _) | (with_reducible refine cN_ ?_ _) | (with_reducible refine cD_ ?_)));(case side4=>exact HC0_2.out);(case side5=>repeat (first | exact (Kd.C_below HR0_3.out HB.out) | (with_reducible refine cA_ ?_ _) | (with_reducible refine cN_ ?_ _) | (with_reducible refine cD_ ?_)));(case side6=>exact HC0_3.out);rintro e w6 ⟨rfl,hb⟩;refine ⟨_,rfl,?_⟩;have n0_:=aM_ (blk_below (g:=gb334) (o:=.cells #[.string a0_0,.slice A0_1 l0_1.length c0_1,.slice A0_2 l0_2.length c0_2,.slice A0_3 l0_3.length c0_3] 46 (0,0)) (by exact kZ_ BK334) hb);have n1_:=aM_ (bT_ (by exact bZ_ HB) hb);clear BK334;clear HB;have BK334:=n0_;have HB:=n1_;clear n0_ n1_;(try clear hb);(try clear hb2);(try clear hk);(try clear hi)))
  go_ret
  exact ⟨by first | rfl | (simp [errW_none,errW_some] <;> rfl) | (simp [*, errW_none,errW_some] <;> rfl),by exact bZ_ HB⟩
 ·rw [if_neg c3] at H
  have c3b0 : decide (t335 < 0) = false:=decide_eq_false c3
  clear c3
  replace H:=oB_ H
  obtain ⟨⟨t336,t337,t340,t343⟩,A70,H⟩:=H
  replace H : ((spec_DefText.f k t336 t337 t340 t343).bind fun t346=>((laws_toDef.f k a0_0 l0_1 l0_2 l0_3).bind fun bt347=>((impl_DefText.f k bt347.1 bt347.2.1 bt347.2.2.1 bt347.2.2.2).bind fun t358=>(if t358.toList = t346.toList then ((laws_toDef.f k a0_0 l0_1 l0_2 l0_3).bind fun bt359=>((laws_eqDef.f k bt347.1 bt347.2.1 bt347.2.2.1 bt347.2.2.2 bt359.1 bt359.2.1 bt359.2.2.1 bt359.2.2.2).bind fun t369=>(if t369 = true then (some true) else (some false)))) else (some false))))) = some r:=H
  have A7:=aM_ A70
  clear A70
  replace H:=oB_ H
  obtain ⟨t346,A80,H⟩:=H
  replace H : ((laws_toDef.f k a0_0 l0_1 l0_2 l0_3).bind fun bt347=>((impl_DefText.f k bt347.1 bt347.2.1 bt347.2.2.1 bt347.2.2.2).bind fun t358=>(if t358.toList = t346.toList then ((laws_toDef.f k a0_0 l0_1 l0_2 l0_3).bind fun bt359=>((laws_eqDef.f k bt347.1 bt347.2.1 bt347.2.2.1 bt347.2.2.2 bt359.1 bt359.2.1 bt359.2.2.1 bt359.2.2.2).bind fun t369=>(if t369 = true then (some true) else (some false)))) else (some false)))) = some r:=H
  have A8:=aM_ A80
  clear A80
  replace H:=oB_ H
  obtain ⟨⟨t347,t348,t351,t354⟩,A90,H⟩:=H
  replace H : ((impl_DefText.f k t347 t348 t351 t354).bind fun t358=>(if t358.toList = t346.toList then ((laws_toDef.f k a0_0 l0_1 l0_2 l0_3).bind fun bt359=>((laws_eqDef.f k t347 t348 t351 t354 bt359.1 bt359.2.1 bt359.2.2.1 bt359.2.2.2).bind fun t369=>(if t369 = true then (some true) else (some false)))) else (some false))) = some r:=H
  have A9:=aM_ A90
  clear A90
  replace H:=oB_ H
  obtain ⟨t358,A100,H⟩:=H
  replace H : (if t358.toList = t346.toList then ((laws_toDef.f k a0_0 l0_1 l0_2 l0_3).bind fun bt359=>((laws_eqDef.f k t347 t348 t351 t354 bt359.1 bt359.2.1 bt359.2.2.1 bt359.2.2.2).bind fun t369=>(if t369 = true then (some true) else (some false)))) else (some false)) = some r:=H
  have A10:=aM_ A100
  clear A100
  by_cases c11 : t358.toList = t346.toList
  ·rw [if_pos c11] at H
   have c11b0 : (t358.toList == t346.toList) = true:=beq_iff_eq.mpr c11
   have c11b1 : (t358.toList != t346.toList) = false:=bne_eq_false_iff_eq.mpr c11
   clear c11
   replace H:=oB_ H
   obtain ⟨⟨t359,t360,t363,t366⟩,A120,H⟩:=H
   replace H : ((laws_eqDef.f k t347 t348 t351 t354 t359 t360 t363 t366).bind fun t369=>(if t369 = true then (some true) else (some false))) = some r:=H
   have A12:=aM_ A120
   clear A120
   replace H:=oB_ H
   obtain ⟨t369,A130,H⟩:=H
   replace H : (if t369 = true then (some true) else (some false)) = some r:=H
   have A13:=aM_ A130
   clear A130
   by_cases c14 : t369 = true
   ·subst c14
    have H1 : (some true) = some r:=by rw [if_pos rfl] at H;exact H
    clear H
    have H:=H1
    clear H1
    obtain rfl:=Option.some.inj H
    go_enter Tryd.func5,Tryd.ntmps5
    try go_wp2_with (first | ((with_reducible refine gate_dst (N:=1) rfl ?_);refine box_event ?hg (N:=1) ?hd (cs:=#[.string a0_0,.slice A0_1 l0_1.length c0_1,.slice A0_2 l0_2.length c0_2,.slice A0_3 l0_3.length c0_3]) (t:=46) ?hr ?_;(case hd=>rfl);(case hg=>rfl);(case hr=>first | (go_simp;done) | (go_simp;rfl));intro gb334 hg w15 hbox hb;have n0_:=aM_ (bT_ (by exact bZ_ HB) hb);have n1_:=aM_ (hbox);have n2_:=aM_ ((by rw [hg];exact (bS_ (by exact bZ_ HB)) : w.heap.size ≤ gb334));have n3_:=aM_ ((by rw [hg];exact (bS_ (by exact bZ_ HB)) : w.heap.size ≤ gb334));clear HB;have HB:=n0_;have BK334:=n1_;have GW334:=n2_;have GE334:=n3_;clear n0_ n1_ n2_ n3_;clear hb hbox hg;have hcz16_0 : w15.cell? ⟨gb334,0,none⟩ = some (.string a0_0):=(kC_ BK334.out 0).trans rfl;have hcz16_1 : w15.cell? ⟨gb334,1,none⟩ = some (.slice A0_1 l0_1.length c0_1):=(kC_ BK334.out 1).trans rfl;have hcz16_2 : w15.cell? ⟨gb334,2,none⟩ = some (.slice A0_2 l0_2.length c0_2):=(kC_ BK334.out 2).trans rfl;have hcz16_3 : w15.cell? ⟨gb334,3,none⟩ = some (.slice A0_3 l0_3.length c0_3):=(kC_ BK334.out 3).trans rfl;have hfz16_0:=kF_ BK334.out 0;have hfz16_1:=kF_ BK334.out 1;have hfz16_2:=kF_ BK334.out 2;have hfz16_3:=kF_ BK334.out 3) | ((with_reducible refine gate_callee (f:=28) rfl ?_);refine goesL_ (some 9) rfl rfl Tryd.func28 (by kernel_rfl) rfl #[.agg #[.string a0_0,.slice A0_1 l0_1.length c0_1,.slice A0_2 l0_2.length c0_2,.slice A0_3 l0_3.length c0_3],.int .i64 1048576] rfl (by (try simp only [mA_,mC_,mN_]);first | done | rfl | (simp only [lD_,lT_];rfl)) ?_;(with_reducible refine (laws_szDef.calls k a0_0 _ _ l0_1 _ _ l0_2 _ _ l0_3 1048576 t335 _ ?side1 ?side2 ?side3 ?side4 ?side5 ?side6 A2.out).mono ?_);(case side1=>repeat (first | exact (Kd.C_below HR0_1.out HB.out) | (with_reducible refine cA_ ?_ _) | (with_reducible refine cN_ ?_ _) | (with_reducible refine cD_ ?_)));(case side2=>exact HC0_1.out);(case side3=>repeat (first | exact (Kd.C_below HR0_2.out HB.out) | (with_reducible refine cA_ ?_ _) | (with_reducible refine cN_ ?_ _) | (with_reducible refine cD_ ?_)));(case side4=>exact HC0_2.out);(case side5=>repeat (first | exact (Kd.C_below HR0_3.out HB.out) | (with_reducible refine cA_ ?_ _) | (with_reducible refine cN_ ?_ _) | (with_reducible refine cD_ ?_)));(case side6=>exact HC0_3.out);rintro e w17 ⟨rfl,hb⟩;refine ⟨_,rfl,?_⟩;have n0_:=aM_ (blk_below (g:=gb334) (o:=.cells #[.string a0_0,.slice A0_1 l0_1.length c0_1,.slice A0_2 l0_2.length c0_2,.slice A0_3 l0_3.length c0_3] 46 (0,0)) (by exact kZ_ BK334) hb);have n1_:=aM_ (bT_ (by exact bZ_ HB) hb);clear BK334;clear HB;have BK334:=n0_;have HB:=n1_;clear n0_ n1_;(try clear hb);(try clear hb2);(try clear hk);(try clear hi);have hcz18_0 : w17.cell? ⟨gb334,0,none⟩ = some (.string a0_0):=(kC_ BK334.out 0).trans rfl;have hcz18_1 : w17.cell? ⟨gb334,1,none⟩ = some (.slice A0_1 l0_1.length c0_1):=(kC_ BK334.out 1).trans rfl;have hcz18_2 : w17.cell? ⟨gb334,2,none⟩ = some (.slice A0_2 l0_2.length c0_2):=(kC_ BK334.out 2).trans rfl;have hcz18_3 : w17.cell? ⟨gb334,3,none⟩ = some (.slice A0_3 l0_3.length c0_3):=(kC_ BK334.out 3).trans rfl;have hfz18_0:=kF_ BK334.out 0;have hfz18_1:=kF_ BK334.out 1;have hfz18_2:=kF_ BK334.out 2;have hfz18_3:=kF_ BK334.out 3) | ((with_reducible refine gate_callee (f:=29) rfl ?_);refine goesL_ (some 13) rfl rfl Tryd.func29 (by kernel_rfl) rfl #[.agg #[.string a0_0,.slice A0_1 l0_1.length c0_1,.slice A0_2 l0_2.length c0_2,.slice A0_3 l0_3.length c0_3]] rfl (by (try simp only [mA_,mC_,mN_]);first | done | rfl | (simp only [lD_,lT_];rfl)) ?_;(with_reducible refine (laws_toDef.calls k a0_0 _ _ l0_1 _ _ l0_2 _ _ l0_3 t336 t337 t340 t343 _ ?side1 ?side2 ?side3 ?side4 ?side5 ?side6 A7.out).mono ?_);(case side1=>repeat (first | exact (Kd.C_below HR0_1.out HB.out) | (with_reducible refine cA_ ?_ _) | (with_reducible refine cN_ ?_ _) | (with_reducible refine cD_ ?_)));(case side2=>exact HC0_1.out);(case side3=>repeat (first | exact (Kd.C_below HR0_2.out HB.out) | (with_reducible refine cA_ ?_ _) | (with_reducible refine cN_ ?_ _) | (with_reducible refine cD_ ?_)));(case side4=>exact HC0_2.out);(case side5=>repeat (first | exact (Kd.C_below HR0_3.out HB.out) | (with_reducible refine cA_ ?_ _) | (with_reducible refine cN_ ?_ _) | (with_reducible refine cD_ ?_)));(case side6=>exact HC0_3.out);rintro e w19 ⟨v338,v341,v344,rfl,ho0,ho1,ho2,hb⟩;refine ⟨_,rfl,?_⟩;have n0_:=aM_ (Kd.R_lower ho0 (bS_ (by exact bZ_ HB)));have n1_:=aM_ (Kd.R_lower ho1 (bS_ (by exact bZ_ HB)));have n2_:=aM_ (Kd.S_lower ho2 (bS_ (by exact bZ_ HB)));have n3_:=aM_ (blk_below (g:=gb334) (o:=.cells #[.string a0_0,.slice A0_1 l0_1.length c0_1,.slice A0_2 l0_2.length c0_2,.slice A0_3 l0_3.length c0_3] 46 (0,0)) (by exact kZ_ BK334) hb);have n4_:=aM_ (bT_ (by exact bZ_ HB) hb);clear BK334;clear HB;have HO339:=n0_;have HO342:=n1_;have HO345:=n2_;have BK334:=n3_;have HB:=n4_;clear n0_ n1_ n2_ n3_ n4_;(try clear hb);(try clear hb2);(try clear hk);(try clear hi);(try clear ho0);(try clear ho1);(try clear ho2);obtain ⟨Ao20,co20,eo20⟩:=Kd.R_slice HO339.out;subst eo20;obtain ⟨Ao21,co21,eo21⟩:=Kd.R_slice HO342.out;subst eo21;obtain ⟨Ao22,co22,eo22⟩:=Kd.S_slice HO345.out;subst eo22) | ((with_reducible refine gate_callee (f:=25) rfl ?_);refine goesL_ (some 14) rfl rfl Tryd.func25 (by kernel_rfl) rfl #[.agg #[.string t336,.slice Ao20 t337.length co20,.slice Ao21 t340.length co21,.slice Ao22 t343.length co22]] rfl (by (try simp only [mA_,mC_,mN_]);first | done | rfl | (simp only [lD_,lT_];rfl)) ?_;(with_reducible refine (spec_DefText.calls k t336 _ _ t337 _ _ t340 _ _ t343 t346 _ ?side1 ?side2 ?side3 ?side4 ?side5 ?side6 A8.out).mono ?_);(case side1=>repeat (first | exact (Kd.R_reads' HO339.out).2.2 | (with_reducible refine cA_ ?_ _) | (with_reducible refine cN_ ?_ _) | (with_reducible refine cD_ ?_)));(case side2=>exact (Kd.R_reads' HO339.out).2.1);(case side3=>repeat (first | exact (Kd.R_reads' HO342.out).2.2 | (with_reducible refine cA_ ?_ _) | (with_reducible refine cN_ ?_ _) | (with_reducible refine cD_ ?_)));(case side4=>exact (Kd.R_reads' HO342.out).2.1);(case side5=>repeat (first | exact (Kd.S_reads' HO345.out).2.2 | (with_reducible refine cA_ ?_ _) | (with_reducible refine cN_ ?_ _) | (with_reducible refine cD_ ?_)));(case side6=>exact (Kd.S_reads' HO345.out).2.1);rintro e w23 ⟨rfl,hb⟩;refine ⟨_,rfl,?_⟩;have n0_:=aM_ (Kd.R_below (by exact rZ_ HO339) hb);have n1_:=aM_ (Kd.R_below (by exact rZ_ HO342) hb);have n2_:=aM_ (Kd.S_below (by (with_reducible repeat (first | apply Kd.S_alloc | apply Kd.S_drewN | apply Kd.S_drew));exact HO345.out) hb);have n3_:=aM_ (blk_below (g:=gb334) (o:=.cells #[.string a0_0,.slice A0_1 l0_1.length c0_1,.slice A0_2 l0_2.length c0_2,.slice A0_3 l0_3.length c0_3] 46 (0,0)) (by exact kZ_ BK334) hb);have n4_:=aM_ (bT_ (by exact bZ_ HB) hb);clear HO339;clear HO342;clear HO345;clear BK334;clear HB;have HO339:=n0_;have HO342:=n1_;have HO345:=n2_;have BK334:=n3_;have HB:=n4_;clear n0_ n1_ n2_ n3_ n4_;(try clear hb);(try clear hb2);(try clear hk);(try clear hi);have hcz24_0 : w23.cell? ⟨gb334,0,none⟩ = some (.string a0_0):=(kC_ BK334.out 0).trans rfl;have hcz24_1 : w23.cell? ⟨gb334,1,none⟩ = some (.slice A0_1 l0_1.length c0_1):=(kC_ BK334.out 1).trans rfl;have hcz24_2 : w23.cell? ⟨gb334,2,none⟩ = some (.slice A0_2 l0_2.length c0_2):=(kC_ BK334.out 2).trans rfl;have hcz24_3 : w23.cell? ⟨gb334,3,none⟩ = some (.slice A0_3 l0_3.length c0_3):=(kC_ BK334.out 3).trans rfl;have hfz24_0:=kF_ BK334.out 0;have hfz24_1:=kF_ BK334.out 1;have hfz24_2:=kF_ BK334.out 2;have hfz24_3:=kF_ BK334.out 3) | ((with_reducible refine gate_callee (f:=29) rfl ?_);refine goesL_ (some 16) rfl rfl Tryd.func29 (by kernel_rfl) rfl #[.agg #[.string a0_0,.slice A0_1 l0_1.length c0_1,.slice A0_2 l0_2.length c0_2,.slice A0_3 l0_3.length c0_3]] rfl (by (try simp only [mA_,mC_,mN_]);first | done | rfl | (simp only [lD_,lT_];rfl)) ?_;(with_reducible refine (laws_toDef.calls k a0_0 _ _ l0_1 _ _ l0_2 _ _ l0_3 t347 t348 t351 t354 _ ?side1 ?side2 ?side3 ?side4 ?side5 ?side6 A9.out).mono ?_);(case side1=>repeat (first | exact (Kd.C_below HR0_1.out HB.out) | (with_reducible refine cA_ ?_ _) | (with_reducible refine cN_ ?_ _) | (with_reducible refine cD_ ?_)));(case side2=>exact HC0_1.out);(case side3=>repeat (first | exact (Kd.C_below HR0_2.out HB.out) | (with_reducible refine cA_ ?_ _) | (with_reducible refine cN_ ?_ _) | (with_reducible refine cD_ ?_)));(case side4=>exact HC0_2.out);(case side5=>repeat (first | exact (Kd.C_below HR0_3.out HB.out) | (with_reducible refine cA_ ?_ _) | (with_reducible refine cN_ ?_ _) | (with_reducible refine cD_ ?_)));(case side6=>exact HC0_3.out);rintro e w25 ⟨v349,v352,v355,rfl,ho0,ho1,ho2,hb⟩;refine ⟨_,rfl,?_⟩;have n0_:=aM_ (Kd.R_elder' (by exact rZ_ HO339) (Kd.R_base ho0) hb);have n1_:=aM_ (Kd.R_elder' (by exact rZ_ HO342) (Kd.R_base ho1) hb);have n2_:=aM_ (Kd.S_mono (Kd.S_told (Kd.S_told (Kd.S_old (by (with_reducible repeat (first | apply Kd.S_alloc | apply Kd.S_drewN | apply Kd.S_drew));exact HO345.out) hb) (Kd.R_base ho1)) (Kd.S_base ho2)) (fun _ h_=>h_.1));have n3_:=aM_ (Kd.R_lower (Kd.R_new' ho0 (Kd.R_lt (by exact rZ_ HO339))) (bS_ (by exact bZ_ HB)));have n4_:=aM_ (Kd.R_lower (Kd.R_new' ho1 (Kd.R_lt (by exact rZ_ HO342))) (bS_ (by exact bZ_ HB)));have n5_:=aM_ (Kd.S_lower (Kd.S_new' (Kd.S_new' ho2 (Kd.R_lt (by exact rZ_ HO342))) (Kd.S_lt (by (with_reducible repeat (first | apply Kd.S_alloc | apply Kd.S_drewN | apply Kd.S_drew));exact HO345.out))) (bS_ (by exact bZ_ HB)));have n6_:=aM_ (blk_below (g:=gb334) (o:=.cells #[.string a0_0,.slice A0_1 l0_1.length c0_1,.slice A0_2 l0_2.length c0_2,.slice A0_3 l0_3.length c0_3] 46 (0,0)) (by exact kZ_ BK334) hb);have n7_:=aM_ (bT_ (by exact bZ_ HB) hb);clear HO339;clear HO342;clear HO345;clear BK334;clear HB;have HO339:=n0_;have HO342:=n1_;have HO345:=n2_;have HO350:=n3_;have HO353:=n4_;have HO356:=n5_;have BK334:=n6_;have HB:=n7_;clear n0_ n1_ n2_ n3_ n4_ n5_ n6_ n7_;(try clear hb);(try clear hb2);(try clear hk);(try clear hi);(try clear ho0);(try clear ho1);(try clear ho2)) | ((with_reducible refine gate_dst (N:=5) rfl ?_);refine box_event ?hg (N:=5) ?hd (cs:=#[.string (⟨#[]⟩ : ByteArray),.slice none 0 0,.slice none 0 0,.slice none 0 0]) (t:=35) ?hr ?_;(case hd=>rfl);(case hg=>rfl);(case hr=>first | (go_simp;done) | (go_simp;rfl));intro gb357 hg w26 hbox hb;have n0_:=aM_ (Kd.R_below (by exact rZ_ HO339) hb);have n1_:=aM_ (Kd.R_below (by exact rZ_ HO342) hb);have n2_:=aM_ (Kd.S_below (by (with_reducible repeat (first | apply Kd.S_alloc | apply Kd.S_drewN | apply Kd.S_drew));exact HO345.out) hb);have n3_:=aM_ (Kd.R_below (by exact rZ_ HO350) hb);have n4_:=aM_ (Kd.R_below (by exact rZ_ HO353) hb);have n5_:=aM_ (Kd.S_below (by (with_reducible repeat (first | apply Kd.S_alloc | apply Kd.S_drewN | apply Kd.S_drew));exact HO356.out) hb);have n6_:=aM_ (blk_below (g:=gb334) (o:=.cells #[.string a0_0,.slice A0_1 l0_1.length c0_1,.slice A0_2 l0_2.length c0_2,.slice A0_3 l0_3.length c0_3] 46 (0,0)) (by exact kZ_ BK334) hb);have n7_:=aM_ (bT_ (by exact bZ_ HB) hb);have n8_:=aM_ (hbox);have n9_:=aM_ ((by rw [hg];exact (bS_ (by exact bZ_ HB)) : w.heap.size ≤ gb357));have n10_:=aM_ ((by rw [hg];exact (bS_ (by exact bZ_ HB)) : w.heap.size ≤ gb357));have n11_:=aM_ ((by rw [hg];exact nN_ (blk_lt (g:=gb334) (o:=.cells #[.string a0_0,.slice A0_1 l0_1.length c0_1,.slice A0_2 l0_2.length c0_2,.slice A0_3 l0_3.length c0_3] 46 (0,0)) (by exact kZ_ BK334)) : gb334 ≠ gb357));have n12_:=aM_ ((by rw [hg];exact Nat.ne_of_gt (blk_lt (g:=gb334) (o:=.cells #[.string a0_0,.slice A0_1 l0_1.length c0_1,.slice A0_2 l0_2.length c0_2,.slice A0_3 l0_3.length c0_3] 46 (0,0)) (by exact kZ_ BK334)) : gb357 ≠ gb334));clear HO339;clear HO342;clear HO345;clear HO350;clear HO353;clear HO356;clear BK334;clear HB;have HO339:=n0_;have HO342:=n1_;have HO345:=n2_;have HO350:=n3_;have HO353:=n4_;have HO356:=n5_;have BK334:=n6_;have HB:=n7_;have BK357:=n8_;have GW357:=n9_;have GE357:=n10_;have NB334_357:=n11_;have NB357_334:=n12_;clear n0_ n1_ n2_ n3_ n4_ n5_ n6_ n7_ n8_ n9_ n10_ n11_ n12_;clear hb hbox hg;have hnb27:=NB357_334.out;have hnc27:=NB334_357.out;have hcz28_0 : w26.cell? ⟨gb357,0,none⟩ = some (.string (⟨#[]⟩ : ByteArray)):=(kC_ BK357.out 0).trans rfl;have hcz28_1 : w26.cell? ⟨gb357,1,none⟩ = some (.slice none 0 0):=(kC_ BK357.out 1).trans rfl;have hcz28_2 : w26.cell? ⟨gb357,2,none⟩ = some (.slice none 0 0):=(kC_ BK357.out 2).trans rfl;have hcz28_3 : w26.cell? ⟨gb357,3,none⟩ = some (.slice none 0 0):=(kC_ BK357.out 3).trans rfl;have hfz28_0:=kF_ BK357.out 0;have hfz28_1:=kF_ BK357.out 1;have hfz28_2:=kF_ BK357.out 2;have hfz28_3:=kF_ BK357.out 3;obtain ⟨Ao29,co29,eo29⟩:=Kd.R_slice HO350.out;subst eo29;obtain ⟨Ao30,co30,eo30⟩:=Kd.R_slice HO353.out;subst eo30;obtain ⟨Ao31,co31,eo31⟩:=Kd.S_slice HO356.out;subst eo31) | ((with_reducible refine gate_callee (f:=24) rfl ?_);refine goesL_ (some 18) rfl rfl Tryd.func24 (by kernel_rfl) rfl #[.agg #[.string t347,.slice Ao29 t348.length co29,.slice Ao30 t351.length co30,.slice Ao31 t354.length co31]] rfl (by (try simp only [mA_,mC_,mN_]);first | done | rfl | (simp only [lD_,lT_];rfl)) ?_;(with_reducible refine (impl_DefText.calls k t347 _ _ t348 _ _ t351 _ _ t354 t358 _ ?side1 ?side2 ?side3 ?side4 ?side5 ?side6 A10.out).mono ?_);(case side1=>refine (Kd.R_reads' (e:=82) (base:=w.heap.size) (ok:=fun k_=>(True ∧ some k_ ≠ (.slice Ao20 t337.length co20 : Value).ownBlock)) (n:=t348.length) (c:=co29) ?_).2.2;exact (by (with_reducible repeat (first | apply rA_ | apply rN_ | apply rD_));exact (Kd.R_mono (Kd.R_far (p:=⟨gb357,3,none⟩) (Kd.R_far (p:=⟨gb357,2,none⟩) (Kd.R_far (p:=⟨gb357,1,none⟩) (Kd.R_far (p:=⟨gb357,0,none⟩) (Kd.R_types HO350.out BK357.out (by decide)) (fun _ hk=>hk.2) (.string t347)) (fun _ hk=>hk.2) (.slice Ao29 t348.length co29)) (fun _ hk=>hk.2) (.slice Ao30 t351.length co30)) (fun _ hk=>hk.2) (.slice Ao31 t354.length co31)) (fun _ h_=>h_.1))));(case side2=>exact (Kd.R_reads' HO350.out).2.1);(case side3=>refine (Kd.R_reads' (e:=85) (base:=w.heap.size) (ok:=fun k_=>(True ∧ some k_ ≠ (.slice Ao21 t340.length co21 : Value).ownBlock)) (n:=t351.length) (c:=co30) ?_).2.2;exact (by (with_reducible repeat (first | apply rA_ | apply rN_ | apply rD_));exact (Kd.R_mono (Kd.R_far (p:=⟨gb357,3,none⟩) (Kd.R_far (p:=⟨gb357,2,none⟩) (Kd.R_far (p:=⟨gb357,1,none⟩) (Kd.R_far (p:=⟨gb357,0,none⟩) (Kd.R_types HO353.out BK357.out (by decide)) (fun _ hk=>hk.2) (.string t347)) (fun _ hk=>hk.2) (.slice Ao29 t348.length co29)) (fun _ hk=>hk.2) (.slice Ao30 t351.length co30)) (fun _ hk=>hk.2) (.slice Ao31 t354.length co31)) (fun _ h_=>h_.1))));(case side4=>exact (Kd.R_reads' HO353.out).2.1);(case side5=>refine (Kd.S_reads' (e:=69) (base:=w.heap.size) (ok:=fun k_=>((some k_ ≠ (.slice Ao30 t351.length co30 : Value).ownBlock ∧ some k_ ≠ (.slice Ao21 t340.length co21 : Value).ownBlock) ∧ some k_ ≠ (.slice Ao22 t343.length co22 : Value).ownBlock)) (n:=t354.length) (c:=co31) ?_).2.2;exact (by (with_reducible repeat (first | apply Kd.S_alloc | apply Kd.S_drewN | apply Kd.S_drew));exact (Kd.S_mono (Kd.S_far (p:=⟨gb357,3,none⟩) (Kd.S_far (p:=⟨gb357,2,none⟩) (Kd.S_far (p:=⟨gb357,1,none⟩) (Kd.S_far (p:=⟨gb357,0,none⟩) (Kd.S_types HO356.out BK357.out (by decide)) (fun _ hk=>hk.2) (.string t347)) (fun _ hk=>hk.2) (.slice Ao29 t348.length co29)) (fun _ hk=>hk.2) (.slice Ao30 t351.length co30)) (fun _ hk=>hk.2) (.slice Ao31 t354.length co31)) (fun _ h_=>h_.1))));(case side6=>exact (Kd.S_reads' HO356.out).2.1);rintro e w32 ⟨rfl,hb⟩;refine ⟨_,rfl,?_⟩;have n0_:=aM_ (Kd.R_below (by (with_reducible repeat (first | apply rA_ | apply rN_ | apply rD_));exact (Kd.R_mono (Kd.R_far (p:=⟨gb357,3,none⟩) (Kd.R_far (p:=⟨gb357,2,none⟩) (Kd.R_far (p:=⟨gb357,1,none⟩) (Kd.R_far (p:=⟨gb357,0,none⟩) (Kd.R_types HO339.out BK357.out (by decide)) (fun _ hk=>hk.2) (.string t347)) (fun _ hk=>hk.2) (.slice Ao29 t348.length co29)) (fun _ hk=>hk.2) (.slice Ao30 t351.length co30)) (fun _ hk=>hk.2) (.slice Ao31 t354.length co31)) (fun _ h_=>h_.1))) hb);have n1_:=aM_ (Kd.R_below (by (with_reducible repeat (first | apply rA_ | apply rN_ | apply rD_));exact (Kd.R_mono (Kd.R_far (p:=⟨gb357,3,none⟩) (Kd.R_far (p:=⟨gb357,2,none⟩) (Kd.R_far (p:=⟨gb357,1,none⟩) (Kd.R_far (p:=⟨gb357,0,none⟩) (Kd.R_types HO342.out BK357.out (by decide)) (fun _ hk=>hk.2) (.string t347)) (fun _ hk=>hk.2) (.slice Ao29 t348.length co29)) (fun _ hk=>hk.2) (.slice Ao30 t351.length co30)) (fun _ hk=>hk.2) (.slice Ao31 t354.length co31)) (fun _ h_=>h_.1))) hb);have n2_:=aM_ (Kd.S_below (by (with_reducible repeat (first | apply Kd.S_alloc | apply Kd.S_drewN | apply Kd.S_drew));exact (Kd.S_mono (Kd.S_far (p:=⟨gb357,3,none⟩) (Kd.S_far (p:=⟨gb357,2,none⟩) (Kd.S_far (p:=⟨gb357,1,none⟩) (Kd.S_far (p:=⟨gb357,0,none⟩) (Kd.S_types HO345.out BK357.out (by decide)) (fun _ hk=>hk.2) (.string t347)) (fun _ hk=>hk.2) (.slice Ao29 t348.length co29)) (fun _ hk=>hk.2) (.slice Ao30 t351.length co30)) (fun _ hk=>hk.2) (.slice Ao31 t354.length co31)) (fun _ h_=>h_.1))) hb);have n3_:=aM_ (Kd.R_below (by (with_reducible repeat (first | apply rA_ | apply rN_ | apply rD_));exact (Kd.R_mono (Kd.R_far (p:=⟨gb357,3,none⟩) (Kd.R_far (p:=⟨gb357,2,none⟩) (Kd.R_far (p:=⟨gb357,1,none⟩) (Kd.R_far (p:=⟨gb357,0,none⟩) (Kd.R_types HO350.out BK357.out (by decide)) (fun _ hk=>hk.2) (.string t347)) (fun _ hk=>hk.2) (.slice Ao29 t348.length co29)) (fun _ hk=>hk.2) (.slice Ao30 t351.length co30)) (fun _ hk=>hk.2) (.slice Ao31 t354.length co31)) (fun _ h_=>h_.1))) hb);have n4_:=aM_ (Kd.R_below (by (with_reducible repeat (first | apply rA_ | apply rN_ | apply rD_));exact (Kd.R_mono (Kd.R_far (p:=⟨gb357,3,none⟩) (Kd.R_far (p:=⟨gb357,2,none⟩) (Kd.R_far (p:=⟨gb357,1,none⟩) (Kd.R_far (p:=⟨gb357,0,none⟩) (Kd.R_types HO353.out BK357.out (by decide)) (fun _ hk=>hk.2) (.string t347)) (fun _ hk=>hk.2) (.slice Ao29 t348.length co29)) (fun _ hk=>hk.2) (.slice Ao30 t351.length co30)) (fun _ hk=>hk.2) (.slice Ao31 t354.length co31)) (fun _ h_=>h_.1))) hb);have n5_:=aM_ (Kd.S_below (by (with_reducible repeat (first | apply Kd.S_alloc | apply Kd.S_drewN | apply Kd.S_drew));exact (Kd.S_mono (Kd.S_far (p:=⟨gb357,3,none⟩) (Kd.S_far (p:=⟨gb357,2,none⟩) (Kd.S_far (p:=⟨gb357,1,none⟩) (Kd.S_far (p:=⟨gb357,0,none⟩) (Kd.S_types HO356.out BK357.out (by decide)) (fun _ hk=>hk.2) (.string t347)) (fun _ hk=>hk.2) (.slice Ao29 t348.length co29)) (fun _ hk=>hk.2) (.slice Ao30 t351.length co30)) (fun _ hk=>hk.2) (.slice Ao31 t354.length co31)) (fun _ h_=>h_.1))) hb);have n6_:=aM_ (blk_below (g:=gb334) (o:=.cells #[.string a0_0,.slice A0_1 l0_1.length c0_1,.slice A0_2 l0_2.length c0_2,.slice A0_3 l0_3.length c0_3] 46 (0,0)) (by exact kW_ BK334) hb);have n7_:=aM_ (blk_below (g:=gb357) (o:=.cells #[.string t347,.slice Ao29 t348.length co29,.slice Ao30 t351.length co30,.slice Ao31 t354.length co31] 35 (0,0)) (by (with_reducible repeat (first | refine kN_ ?_ _ | refine kD_ ?_ | refine kA_ ?_ _));refine kP_ (cs:=#[.string t347,.slice Ao29 t348.length co29,.slice Ao30 t351.length co30,.slice none 0 0]) ?_ 3 _ rfl;(with_reducible repeat (first | refine kN_ ?_ _ | refine kD_ ?_ | refine kA_ ?_ _));refine kP_ (cs:=#[.string t347,.slice Ao29 t348.length co29,.slice none 0 0,.slice none 0 0]) ?_ 2 _ rfl;(with_reducible repeat (first | refine kN_ ?_ _ | refine kD_ ?_ | refine kA_ ?_ _));refine kP_ (cs:=#[.string t347,.slice none 0 0,.slice none 0 0,.slice none 0 0]) ?_ 1 _ rfl;(with_reducible repeat (first | refine kN_ ?_ _ | refine kD_ ?_ | refine kA_ ?_ _));refine kP_ (cs:=#[.string (⟨#[]⟩ : ByteArray),.slice none 0 0,.slice none 0 0,.slice none 0 0]) ?_ 0 _ rfl;exact kZ_ BK357) hb);have n8_:=aM_ (bT_ (by exact bZ_ HB) hb);clear HO339;clear HO342;clear HO345;clear HO350;clear HO353;clear HO356;clear BK334;clear BK357;clear HB;have HO339:=n0_;have HO342:=n1_;have HO345:=n2_;have HO350:=n3_;have HO353:=n4_;have HO356:=n5_;have BK334:=n6_;have BK357:=n7_;have HB:=n8_;clear n0_ n1_ n2_ n3_ n4_ n5_ n6_ n7_ n8_;(try clear hb);(try clear hb2);(try clear hk);(try clear hi)))
    have n0_:=aM_ (rD_ HO339.out)
    have n1_:=aM_ (rD_ HO342.out)
    have n2_:=aM_ (Kd.S_drew HO345.out)
    have n3_:=aM_ (rD_ HO350.out)
    have n4_:=aM_ (rD_ HO353.out)
    have n5_:=aM_ (Kd.S_drew HO356.out)
    have n6_:=aM_ (kD_ BK334.out)
    have n7_:=aM_ (kD_ BK357.out)
    have n8_:=aM_ (bD_ HB.out)
    clear HO339
    clear HO342
    clear HO345
    clear HO350
    clear HO353
    clear HO356
    clear BK334
    clear BK357
    clear HB
    have HO339:=n0_
    have HO342:=n1_
    have HO345:=n2_
    have HO350:=n3_
    have HO353:=n4_
    have HO356:=n5_
    have BK334:=n6_
    have BK357:=n7_
    have HB:=n8_
    clear n0_ n1_ n2_ n3_ n4_ n5_ n6_ n7_ n8_
    refine start_ (n:=5) (S:=fun w'=>w'.cell? ⟨gb357,0,none⟩ = some (.string t347) ∧ w'.cell? ⟨gb357,1,none⟩ = some (.slice Ao29 t348.length co29) ∧ w'.cell? ⟨gb357,2,none⟩ = some (.slice Ao30 t351.length co30) ∧ w'.cell? ⟨gb357,3,none⟩ = some (.slice Ao31 t354.length co31) ∧ w'.cell? ⟨gb334,0,none⟩ = some (.string a0_0) ∧ w'.cell? ⟨gb334,1,none⟩ = some (.slice A0_1 l0_1.length c0_1) ∧ w'.cell? ⟨gb334,2,none⟩ = some (.slice A0_2 l0_2.length c0_2) ∧ w'.cell? ⟨gb334,3,none⟩ = some (.slice A0_3 l0_3.length c0_3)) (ds:=[]) #[false,false,false,false,false] (by kernel_rfl) rfl rfl ⟨(kC_ BK357.out 0).trans rfl,(kC_ BK357.out 1).trans rfl,(kC_ BK357.out 2).trans rfl,(kC_ BK357.out 3).trans rfl,(kC_ BK334.out 0).trans rfl,(kC_ BK334.out 1).trans rfl,(kC_ BK334.out 2).trans rfl,(kC_ BK334.out 3).trans rfl⟩ (fun hHeld=>?_)
    generalize w32.drew = w33 at HO339 HO342 HO345 HO350 HO353 HO356 BK334 BK357 HB hHeld ⊢
    refine take_ (i:=0) (N:=some 22) (v:=?_) (a':=?_) #[true,false,false,false,false] rfl rfl (by kernel_rfl) (fun _ _ _ h=>h) (Or.inl ⟨by rfl,?_⟩) hHeld ?_ ?_
    rotate_left
    ·rintro w' ⟨s0,s1,s2,s3,s4,s5,s6,s7⟩
     go_simp
     with_reducible rfl
    rotate_left
    ·simp only [Act.put,sI_,sZ_,sS_,i64_w,i32_w]
     rfl
    refine take_ (i:=1) (N:=some 23) (v:=?_) (a':=?_) #[true,true,false,false,false] rfl rfl (by kernel_rfl) (fun _ _ _ h=>h) (Or.inl ⟨by rfl,?_⟩) hHeld ?_ ?_
    rotate_left
    ·rintro w' ⟨s0,s1,s2,s3,s4,s5,s6,s7⟩
     go_simp
     with_reducible rfl
    rotate_left
    ·simp only [Act.put,sI_,sZ_,sS_,i64_w,i32_w]
     rfl
    refine one_ (i:=2) (N:=some 24) #[true,true,true,false,false] rfl rfl (by kernel_rfl) (by decide) (fun K hK=>?_)
    refine goes_ Tryd.func29 (by kernel_rfl) rfl #[.agg #[.string a0_0,.slice A0_1 l0_1.length c0_1,.slice A0_2 l0_2.length c0_2,.slice A0_3 l0_3.length c0_3]] (by rfl) rfl rfl (by (try simp only [mA_,mC_,mN_]);first | done | rfl | (simp only [lD_,lT_];rfl)) ?_
    with_reducible refine (laws_toDef.calls k a0_0 _ _ l0_1 _ _ l0_2 _ _ l0_3 t359 t360 t363 t366 _ ?side1 ?side2 ?side3 ?side4 ?side5 ?side6 A12.out).mono ?_
    (case side1=>repeat (first | exact (Kd.C_below HR0_1.out HB.out) | (with_reducible refine cA_ ?_ _) | (with_reducible refine cN_ ?_ _) | (with_reducible refine cD_ ?_)))
    (case side2=>exact HC0_1.out)
    (case side3=>repeat (first | exact (Kd.C_below HR0_2.out HB.out) | (with_reducible refine cA_ ?_ _) | (with_reducible refine cN_ ?_ _) | (with_reducible refine cD_ ?_)))
    (case side4=>exact HC0_2.out)
    (case side5=>repeat (first | exact (Kd.C_below HR0_3.out HB.out) | (with_reducible refine cA_ ?_ _) | (with_reducible refine cN_ ?_ _) | (with_reducible refine cD_ ?_)))
    (case side6=>exact HC0_3.out)
    rintro e w34 ⟨v361,v364,v367,rfl,ho0,ho1,ho2,hb⟩
    refine ⟨_,rfl,?_⟩
    have n0_:=aM_ (Kd.R_elder' (by exact rZ_ HO339) (Kd.R_base ho0) hb)
    have n1_:=aM_ (Kd.R_elder' (by exact rZ_ HO342) (Kd.R_base ho1) hb)
    have n2_:=aM_ (Kd.S_mono (Kd.S_told (Kd.S_told (Kd.S_old (by (with_reducible repeat (first | apply Kd.S_alloc | apply Kd.S_drewN | apply Kd.S_drew));exact HO345.out) hb) (Kd.R_base ho1)) (Kd.S_base ho2)) (fun _ h_=>h_.1))
    have n3_:=aM_ (Kd.R_elder' (by exact rZ_ HO350) (Kd.R_base ho0) hb)
    have n4_:=aM_ (Kd.R_elder' (by exact rZ_ HO353) (Kd.R_base ho1) hb)
    have n5_:=aM_ (Kd.S_mono (Kd.S_told (Kd.S_told (Kd.S_old (by (with_reducible repeat (first | apply Kd.S_alloc | apply Kd.S_drewN | apply Kd.S_drew));exact HO356.out) hb) (Kd.R_base ho1)) (Kd.S_base ho2)) (fun _ h_=>h_.1))
    have n6_:=aM_ (Kd.R_lower (Kd.R_new' (Kd.R_new' ho0 (Kd.R_lt (by exact rZ_ HO339))) (Kd.R_lt (by exact rZ_ HO350))) (bS_ (by exact bZ_ HB)))
    have n7_:=aM_ (Kd.R_lower (Kd.R_new' (Kd.R_new' ho1 (Kd.R_lt (by exact rZ_ HO342))) (Kd.R_lt (by exact rZ_ HO353))) (bS_ (by exact bZ_ HB)))
    have n8_:=aM_ (Kd.S_lower (Kd.S_new' (Kd.S_new' (Kd.S_new' (Kd.S_new' ho2 (Kd.R_lt (by exact rZ_ HO342))) (Kd.S_lt (by (with_reducible repeat (first | apply Kd.S_alloc | apply Kd.S_drewN | apply Kd.S_drew));exact HO345.out))) (Kd.R_lt (by exact rZ_ HO353))) (Kd.S_lt (by (with_reducible repeat (first | apply Kd.S_alloc | apply Kd.S_drewN | apply Kd.S_drew));exact HO356.out))) (bS_ (by exact bZ_ HB)))
    have n9_:=aM_ (blk_below (g:=gb334) (o:=.cells #[.string a0_0,.slice A0_1 l0_1.length c0_1,.slice A0_2 l0_2.length c0_2,.slice A0_3 l0_3.length c0_3] 46 (0,0)) (by exact kZ_ BK334) hb)
    have n10_:=aM_ (blk_below (g:=gb357) (o:=.cells #[.string t347,.slice Ao29 t348.length co29,.slice Ao30 t351.length co30,.slice Ao31 t354.length co31] 35 (0,0)) (by exact kZ_ BK357) hb)
    have n11_:=aM_ (bT_ (by exact bZ_ HB) hb)
    clear HO339
    clear HO342
    clear HO345
    clear HO350
    clear HO353
    clear HO356
    clear BK334
    clear BK357
    clear HB
    have HO339:=n0_
    have HO342:=n1_
    have HO345:=n2_
    have HO350:=n3_
    have HO353:=n4_
    have HO356:=n5_
    have HO362:=n6_
    have HO365:=n7_
    have HO368:=n8_
    have BK334:=n9_
    have BK357:=n10_
    have HB:=n11_
    clear n0_ n1_ n2_ n3_ n4_ n5_ n6_ n7_ n8_ n9_ n10_ n11_
    (try clear hb)
    (try clear hb2)
    (try clear hk)
    (try clear hi)
    (try clear ho0)
    (try clear ho1)
    (try clear ho2)
    obtain ⟨Ao35,co35,eo35⟩:=Kd.R_slice HO362.out
    (first | subst eo35 | (injection eo35 with f1_ f2_ f3_;have f4_:=f1_.symm;have f5_:=f3_.symm;clear f1_ f2_ f3_;subst f4_;subst f5_))
    obtain ⟨Ao36,co36,eo36⟩:=Kd.R_slice HO365.out
    (first | subst eo36 | (injection eo36 with f1_ f2_ f3_;have f4_:=f1_.symm;have f5_:=f3_.symm;clear f1_ f2_ f3_;subst f4_;subst f5_))
    obtain ⟨Ao37,co37,eo37⟩:=Kd.S_slice HO368.out
    (first | subst eo37 | (injection eo37 with f1_ f2_ f3_;have f4_:=f1_.symm;have f5_:=f3_.symm;clear f1_ f2_ f3_;subst f4_;subst f5_))
    refine hK.out _ _ ⟨(kC_ BK357.out 0).trans rfl,(kC_ BK357.out 1).trans rfl,(kC_ BK357.out 2).trans rfl,(kC_ BK357.out 3).trans rfl,(kC_ BK334.out 0).trans rfl,(kC_ BK334.out 1).trans rfl,(kC_ BK334.out 2).trans rfl,(kC_ BK334.out 3).trans rfl⟩ (fun hHeld=>?_)
    clear hK K
    refine norm_ (a':=?_) ?_ ?_
    rotate_left
    ·show Act.put _ (some 24) _ = _
     simp only [Act.put,sI_,sZ_,sS_,i64_w,i32_w]
     rfl
    refine one_ (i:=3) (N:=some 25) #[true,true,true,true,false] rfl rfl (by kernel_rfl) (by decide) (fun K hK=>?_)
    refine goes_ Tryd.func30 (by kernel_rfl) rfl #[.agg #[.string t347,.slice Ao29 t348.length co29,.slice Ao30 t351.length co30,.slice Ao31 t354.length co31],.agg #[.string t359,.slice Ao35 t360.length co35,.slice Ao36 t363.length co36,.slice Ao37 t366.length co37]] (by rfl) rfl rfl (by (try simp only [mA_,mC_,mN_]);first | done | rfl | (simp only [lD_,lT_];rfl)) ?_
    with_reducible refine (laws_eqDef.calls k t347 _ _ t348 _ _ t351 _ _ t354 t359 _ _ t360 _ _ t363 _ _ t366 true _ ?side1 ?side2 ?side3 ?side4 ?side5 ?side6 ?side7 ?side8 ?side9 ?side10 ?side11 ?side12 A13.out).mono ?_
    (case side1=>repeat (first | exact (Kd.R_reads' HO350.out).2.2 | (with_reducible refine cA_ ?_ _) | (with_reducible refine cN_ ?_ _) | (with_reducible refine cD_ ?_)))
    (case side2=>exact (Kd.R_reads' HO350.out).2.1)
    (case side3=>repeat (first | exact (Kd.R_reads' HO353.out).2.2 | (with_reducible refine cA_ ?_ _) | (with_reducible refine cN_ ?_ _) | (with_reducible refine cD_ ?_)))
    (case side4=>exact (Kd.R_reads' HO353.out).2.1)
    (case side5=>repeat (first | exact (Kd.S_reads' HO356.out).2.2 | (with_reducible refine cA_ ?_ _) | (with_reducible refine cN_ ?_ _) | (with_reducible refine cD_ ?_)))
    (case side6=>exact (Kd.S_reads' HO356.out).2.1)
    (case side7=>repeat (first | exact (Kd.R_reads' HO362.out).2.2 | (with_reducible refine cA_ ?_ _) | (with_reducible refine cN_ ?_ _) | (with_reducible refine cD_ ?_)))
    (case side8=>exact (Kd.R_reads' HO362.out).2.1)
    (case side9=>repeat (first | exact (Kd.R_reads' HO365.out).2.2 | (with_reducible refine cA_ ?_ _) | (with_reducible refine cN_ ?_ _) | (with_reducible refine cD_ ?_)))
    (case side10=>exact (Kd.R_reads' HO365.out).2.1)
    (case side11=>repeat (first | exact (Kd.S_reads' HO368.out).2.2 | (with_reducible refine cA_ ?_ _) | (with_reducible refine cN_ ?_ _) | (with_reducible refine cD_ ?_)))
    (case side12=>exact (Kd.S_reads' HO368.out).2.1)
    rintro e w38 ⟨rfl,hb⟩
    refine ⟨_,rfl,?_⟩
    have n0_:=aM_ (Kd.R_below (by exact rZ_ HO339) hb)
    have n1_:=aM_ (Kd.R_below (by exact rZ_ HO342) hb)
    have n2_:=aM_ (Kd.S_below (by (with_reducible repeat (first | apply Kd.S_alloc | apply Kd.S_drewN | apply Kd.S_drew));exact HO345.out) hb)
    have n3_:=aM_ (Kd.R_below (by exact rZ_ HO350) hb)
    have n4_:=aM_ (Kd.R_below (by exact rZ_ HO353) hb)
    have n5_:=aM_ (Kd.S_below (by (with_reducible repeat (first | apply Kd.S_alloc | apply Kd.S_drewN | apply Kd.S_drew));exact HO356.out) hb)
    have n6_:=aM_ (Kd.R_below (by exact rZ_ HO362) hb)
    have n7_:=aM_ (Kd.R_below (by exact rZ_ HO365) hb)
    have n8_:=aM_ (Kd.S_below (by (with_reducible repeat (first | apply Kd.S_alloc | apply Kd.S_drewN | apply Kd.S_drew));exact HO368.out) hb)
    have n9_:=aM_ (blk_below (g:=gb334) (o:=.cells #[.string a0_0,.slice A0_1 l0_1.length c0_1,.slice A0_2 l0_2.length c0_2,.slice A0_3 l0_3.length c0_3] 46 (0,0)) (by exact kZ_ BK334) hb)
    have n10_:=aM_ (blk_below (g:=gb357) (o:=.cells #[.string t347,.slice Ao29 t348.length co29,.slice Ao30 t351.length co30,.slice Ao31 t354.length co31] 35 (0,0)) (by exact kZ_ BK357) hb)
    have n11_:=aM_ (bT_ (by exact bZ_ HB) hb)
    clear HO339
    clear HO342
    clear HO345
    clear HO350
    clear HO353
    clear HO356
    clear HO362
    clear HO365
    clear HO368
    clear BK334
    clear BK357
    clear HB
    have HO339:=n0_
    have HO342:=n1_
    have HO345:=n2_
    have HO350:=n3_
    have HO353:=n4_
    have HO356:=n5_
    have HO362:=n6_
    have HO365:=n7_
    have HO368:=n8_
    have BK334:=n9_
    have BK357:=n10_
    have HB:=n11_
    clear n0_ n1_ n2_ n3_ n4_ n5_ n6_ n7_ n8_ n9_ n10_ n11_
    (try clear hb)
    (try clear hb2)
    (try clear hk)
    (try clear hi)
    refine hK.out _ _ ⟨(kC_ BK357.out 0).trans rfl,(kC_ BK357.out 1).trans rfl,(kC_ BK357.out 2).trans rfl,(kC_ BK357.out 3).trans rfl,(kC_ BK334.out 0).trans rfl,(kC_ BK334.out 1).trans rfl,(kC_ BK334.out 2).trans rfl,(kC_ BK334.out 3).trans rfl⟩ (fun hHeld=>?_)
    clear hK K
    refine norm_ (a':=?_) ?_ ?_
    rotate_left
    ·show Act.put _ (some 25) _ = _
     simp only [Act.put,sI_,sZ_,sS_,i64_w,i32_w]
     rfl
    refine pure_ (i:=4) (N:=some 26) (v:=?_) (a':=?_) #[true,true,true,true,true] rfl rfl (by kernel_rfl) (fun _ _ _ h=>h) (Or.inl ⟨by rfl,?_⟩) ?_ ?_
    rotate_left
    ·intro w'
     go_simp
     with_reducible rfl
    rotate_left
    ·simp only [Act.put,sI_,sZ_,sS_,i64_w,i32_w]
     rfl
    refine done_ (by kernel_rfl) ?_
    try go_wp2
    go_ret
    exact ⟨by first | rfl | (simp [errW_none,errW_some] <;> rfl) | (simp [*, errW_none,errW_some] <;> rfl),by exact bZ_ HB⟩
   ·replace c14:=Bool.eq_false_iff.mpr c14
    subst c14
    have H1 : (some false) = some r:=by rw [if_neg (show ¬ (false = true) by decide)] at H;exact H
    clear H
    have H:=H1
    clear H1
    exact absurd (H.trans (congrArg some hr_.out)) (by simp)
  ·rw [if_neg c11] at H
   have c11b0 : (t358.toList == t346.toList) = false:=beq_eq_false_iff_ne.mpr c11
   have c11b1 : (t358.toList != t346.toList) = true:=bne_iff_ne.mpr c11
   exact absurd (H.trans (congrArg some hr_.out)) (by simp)
end Go.Proofs.YtipehkeabnfngaaDoor.PFnExactDefText
