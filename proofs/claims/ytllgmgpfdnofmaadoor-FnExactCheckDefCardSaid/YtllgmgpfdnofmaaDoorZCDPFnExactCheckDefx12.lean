import Derived.Test.YtllgmgpfdnofmaaDoorZCDPFnExactCheckDefx0
import Derived.Test.YtllgmgpfdnofmaaDoorZCDPFnExactCheckDefx1
import Derived.Test.YtllgmgpfdnofmaaDoorZCDPFnExactCheckDefx5
import Derived.Test.YtllgmgpfdnofmaaDoorZCDPFnExactCheckDefx6
import Derived.Test.YtllgmgpfdnofmaaDoorZCDPFnExactCheckDefx9
import Derived.Test.YtllgmgpfdnofmaaDoorZCDPFnExactCheckDefx11
namespace Go.Proofs.YtllgmgpfdnofmaaDoor.PFnExactCheckDef
open Go.RowKit Go.Proofs.YtllgmgpfdnofmaaDoorW.PrintWords Go.Proofs.YtllgmgpfdnofmaaDoorW.PrintLast Go.Proofs.YtllgmgpfdnofmaaDoorW.PrintMore Go.Proofs.YtllgmgpfdnofmaaDoor.Xtra
attribute [local go_sem] max2_int min2_int max_two min_two max_three min_three max_four min_four str_leq str_gtr str_geq setCell_drewN cell_set2 cell_set3   -- for this text's walks alone
set_option linter.unusedVariables false
set_option linter.unusedSimpArgs false
def laws_FnExactCheckDef.f (k : Nat) (a0_0 : ByteArray) (l0_1 : List (S56)) (l0_2 : List (S64)) (l0_3 : List (S59)) : Option (Bool):=(laws_szDef.f k a0_0 l0_1 l0_2 l0_3 1048576).bind fun t286=>(if t286 < 0 then (some true) else ((laws_toDef.f k a0_0 l0_1 l0_2 l0_3).bind fun bt287=>((spec_CheckDef.f k bt287.1 bt287.2.1 bt287.2.2.1 bt287.2.2.2).bind fun t297=>((laws_toDef.f k a0_0 l0_1 l0_2 l0_3).bind fun bt298=>((impl_CheckDef.f k bt298.1 bt298.2.1 bt298.2.2.1 bt298.2.2.2).bind fun t309=>(if t309 = t297 then ((laws_toDef.f k a0_0 l0_1 l0_2 l0_3).bind fun bt310=>((laws_eqDef.f k bt298.1 bt298.2.1 bt298.2.2.1 bt298.2.2.2 bt310.1 bt310.2.1 bt310.2.2.1 bt310.2.2.2).bind fun t320=>(if t320 = true then (some true) else (some false)))) else (some false)))))))
theorem laws_FnExactCheckDef.mono : ∀ a0 a1 a2 a3 k,LeO (laws_FnExactCheckDef.f k a0 a1 a2 a3) (laws_FnExactCheckDef.f (k + 1) a0 a1 a2 a3):=by
 intro a0 a1 a2 a3 k
 unfold laws_FnExactCheckDef.f
 repeat' first
   | (with_reducible exact impl_CheckDef.mono _ _ _ _ _)
   | (with_reducible exact laws_eqDef.mono _ _ _ _ _ _ _ _ _)
   | (with_reducible exact laws_szDef.mono _ _ _ _ _ _)
   | (with_reducible exact laws_toDef.mono _ _ _ _ _)
   | (with_reducible exact spec_CheckDef.mono _ _ _ _ _)
   | (with_reducible exact LeO.refl _)
   | (with_reducible exact LeO.none _)
   | (with_reducible refine LeO.ite ?_ ?_)
   | (with_reducible refine LeO.bind ?_ (fun _=>?_))
   | exact impl_CheckDef.mono _ _ _ _ _
   | exact laws_eqDef.mono _ _ _ _ _ _ _ _ _
   | exact laws_szDef.mono _ _ _ _ _ _
   | exact laws_toDef.mono _ _ _ _ _
   | exact spec_CheckDef.mono _ _ _ _ _
   | exact LeO.none _
   | refine LeO.ite ?_ ?_
   | refine LeO.bind ?_ (fun _=>?_)
set_option maxHeartbeats 8000000 in
set_option maxRecDepth 100000 in
theorem laws_FnExactCheckDef.calls (k : Nat) (a0_0 : ByteArray) (A0_1 : Option Addr) (c0_1 : Nat) (l0_1 : List (S56)) (A0_2 : Option Addr) (c0_2 : Nat) (l0_2 : List (S64)) (A0_3 : Option Addr) (c0_3 : Nat) (l0_3 : List (S59)) (r : Bool) (w : World) (hr0_1 : Kd.C k56 w A0_1 l0_1.length l0_1) (hc0_1 : l0_1.length ≤ c0_1) (hr0_2 : Kd.C k64 w A0_2 l0_2.length l0_2) (hc0_2 : l0_2.length ≤ c0_2) (hr0_3 : Kd.C k59 w A0_3 l0_3.length l0_3) (hc0_3 : l0_3.length ≤ c0_3) (hr_ : Aside0 (r = true)) (h : laws_FnExactCheckDef.f k a0_0 l0_1 l0_2 l0_3 = some r) :
  Calls Tryd.prog 3 #[.agg #[.string a0_0,.slice A0_1 l0_1.length c0_1,.slice A0_2 l0_2.length c0_2,.slice A0_3 l0_3.length c0_3]] w fun e w'=>e = .returned (.bool r) ∧ Below w.heap.size w w':=by
 have hu26:=Tryd.underlying26
 have hu33:=Tryd.underlying33
 have HR0_1:=aM_ hr0_1
 have HC0_1:=aM_ hc0_1
 clear hr0_1 hc0_1
 have HR0_2:=aM_ hr0_2
 have HC0_2:=aM_ hc0_2
 clear hr0_2 hc0_2
 have HR0_3:=aM_ hr0_3
 have HC0_3:=aM_ hc0_3
 clear hr0_3 hc0_3
 have HB:=aM_ (Below.refl w.heap.size w)
 have H : ((laws_szDef.f k a0_0 l0_1 l0_2 l0_3 1048576).bind fun t286=>(if t286 < 0 then (some true) else ((laws_toDef.f k a0_0 l0_1 l0_2 l0_3).bind fun bt287=>((spec_CheckDef.f k bt287.1 bt287.2.1 bt287.2.2.1 bt287.2.2.2).bind fun t297=>((laws_toDef.f k a0_0 l0_1 l0_2 l0_3).bind fun bt298=>((impl_CheckDef.f k bt298.1 bt298.2.1 bt298.2.2.1 bt298.2.2.2).bind fun t309=>(if t309 = t297 then ((laws_toDef.f k a0_0 l0_1 l0_2 l0_3).bind fun bt310=>((laws_eqDef.f k bt298.1 bt298.2.1 bt298.2.2.1 bt298.2.2.2 bt310.1 bt310.2.1 bt310.2.2.1 bt310.2.2.2).bind fun t320=>(if t320 = true then (some true) else (some false)))) else (some false)))))))) = some r:=h
 clear h
 replace H:=oB_ H
 obtain ⟨t286,A20,H⟩:=H
 replace H : (if t286 < 0 then (some true) else ((laws_toDef.f k a0_0 l0_1 l0_2 l0_3).bind fun bt287=>((spec_CheckDef.f k bt287.1 bt287.2.1 bt287.2.2.1 bt287.2.2.2).bind fun t297=>((laws_toDef.f k a0_0 l0_1 l0_2 l0_3).bind fun bt298=>((impl_CheckDef.f k bt298.1 bt298.2.1 bt298.2.2.1 bt298.2.2.2).bind fun t309=>(if t309 = t297 then ((laws_toDef.f k a0_0 l0_1 l0_2 l0_3).bind fun bt310=>((laws_eqDef.f k bt298.1 bt298.2.1 bt298.2.2.1 bt298.2.2.2 bt310.1 bt310.2.1 bt310.2.2.1 bt310.2.2.2).bind fun t320=>(if t320 = true then (some true) else (some false)))) else (some false))))))) = some r:=H
 have A2:=aM_ A20
 clear A20
 by_cases c3 : t286 < 0
 ·rw [if_pos c3] at H
  have c3b0 : decide (t286 < 0) = true:=decide_eq_true c3
  clear c3
  obtain rfl:=Option.some.inj H
  go_enter Tryd.func3,Tryd.ntmps3
  go_wp2_with (first | ((with_reducible refine gate_dst (N:=1) rfl ?_);refine box_event ?hg (N:=1) ?hd (cs:=#[.string a0_0,.slice A0_1 l0_1.length c0_1,.slice A0_2 l0_2.length c0_2,.slice A0_3 l0_3.length c0_3]) (t:=26) ?hr ?_;(case hd=>rfl);(case hg=>rfl);(case hr=>first | (go_simp;done) | (go_simp;rfl));intro gb285 hg w4 hbox hb;have n0_:=aM_ (bT_ (by exact bZ_ HB) hb);have n1_:=aM_ (hbox);have n2_:=aM_ ((by rw [hg];exact (bS_ (by exact bZ_ HB)) : w.heap.size ≤ gb285));have n3_:=aM_ ((by rw [hg];exact (bS_ (by exact bZ_ HB)) : w.heap.size ≤ gb285));clear HB;have HB:=n0_;have BK285:=n1_;have GW285:=n2_;have GE285:=n3_;clear n0_ n1_ n2_ n3_;clear hb hbox hg;have hcz5_0 : w4.cell? ⟨gb285,0,none⟩ = some (.string a0_0):=(kC_ BK285.out 0).trans rfl;have hcz5_1 : w4.cell? ⟨gb285,1,none⟩ = some (.slice A0_1 l0_1.length c0_1):=(kC_ BK285.out 1).trans rfl;have hcz5_2 : w4.cell? ⟨gb285,2,none⟩ = some (.slice A0_2 l0_2.length c0_2):=(kC_ BK285.out 2).trans rfl;have hcz5_3 : w4.cell? ⟨gb285,3,none⟩ = some (.slice A0_3 l0_3.length c0_3):=(kC_ BK285.out 3).trans rfl;have hfz5_0:=kF_ BK285.out 0;have hfz5_1:=kF_ BK285.out 1;have hfz5_2:=kF_ BK285.out 2;have hfz5_3:=kF_ BK285.out 3) | ((with_reducible refine gate_callee (f:=4) rfl ?_);refine goesL_ (some 9) rfl rfl Tryd.func4 (by kernel_rfl) rfl #[.agg #[.string a0_0,.slice A0_1 l0_1.length c0_1,.slice A0_2 l0_2.length c0_2,.slice A0_3 l0_3.length c0_3],.int .i64 1048576] rfl (by (try simp only [mA_,mC_,mN_]);first | done | rfl | (simp only [lD_,lT_];rfl)) ?_;(with_reducible refine (laws_szDef.calls k a0_0 _ _ l0_1 _ _ l0_2 _ _ l0_3 1048576 t286 _ ?side1 ?side2 ?side3 ?side4 ?side5 ?side6 A2.out).mono ?_);(case side1=>repeat (first | exact (Kd.C_below HR0_1.out HB.out) | (with_reducible refine cA_ ?_ _) | (with_reducible refine cN_ ?_ _) | (with_reducible refine cD_ ?_)));(case side2=>exact HC0_1.out);(case side3=>repeat (first | exact (Kd.C_below HR0_2.out HB.out) | (with_reducible refine cA_ ?_ _) | (with_reducible refine cN_ ?_ _) | (with_reducible refine cD_ ?_)));(case side4=>exact HC0_2.out);(case side5=>repeat (first | exact (Kd.C_below HR0_3.out HB.out) | (with_reducible refine cA_ ?_ _) | (with_reducible refine cN_ ?_ _) | (with_reducible refine cD_ ?_)));(case side6=>exact HC0_3.out);rintro e w6 ⟨rfl,hb⟩;refine ⟨_,rfl,?_⟩;have n0_:=aM_ (blk_below (g:=gb285) (o:=.cells #[.string a0_0,.slice A0_1 l0_1.length c0_1,.slice A0_2 l0_2.length c0_2,.slice A0_3 l0_3.length c0_3] 26 (0,0)) (by exact kZ_ BK285) hb);have n1_:=aM_ (bT_ (by exact bZ_ HB) hb);clear BK285;clear HB;have BK285:=n0_;have HB:=n1_;clear n0_ n1_;(try clear hb);(try clear hb2);(try clear hk);(try clear hi)))
  go_ret
  exact ⟨by first | rfl | (simp [errW_none,errW_some] <;> rfl) | (simp [*, errW_none,errW_some] <;> rfl),by exact bZ_ HB⟩
 ·rw [if_neg c3] at H
  have c3b0 : decide (t286 < 0) = false:=decide_eq_false c3
  clear c3
  replace H:=oB_ H
  obtain ⟨⟨t287,t288,t291,t294⟩,A70,H⟩:=H
  replace H : ((spec_CheckDef.f k t287 t288 t291 t294).bind fun t297=>((laws_toDef.f k a0_0 l0_1 l0_2 l0_3).bind fun bt298=>((impl_CheckDef.f k bt298.1 bt298.2.1 bt298.2.2.1 bt298.2.2.2).bind fun t309=>(if t309 = t297 then ((laws_toDef.f k a0_0 l0_1 l0_2 l0_3).bind fun bt310=>((laws_eqDef.f k bt298.1 bt298.2.1 bt298.2.2.1 bt298.2.2.2 bt310.1 bt310.2.1 bt310.2.2.1 bt310.2.2.2).bind fun t320=>(if t320 = true then (some true) else (some false)))) else (some false))))) = some r:=H
  have A7:=aM_ A70
  clear A70
  replace H:=oB_ H
  obtain ⟨t297,A80,H⟩:=H
  replace H : ((laws_toDef.f k a0_0 l0_1 l0_2 l0_3).bind fun bt298=>((impl_CheckDef.f k bt298.1 bt298.2.1 bt298.2.2.1 bt298.2.2.2).bind fun t309=>(if t309 = t297 then ((laws_toDef.f k a0_0 l0_1 l0_2 l0_3).bind fun bt310=>((laws_eqDef.f k bt298.1 bt298.2.1 bt298.2.2.1 bt298.2.2.2 bt310.1 bt310.2.1 bt310.2.2.1 bt310.2.2.2).bind fun t320=>(if t320 = true then (some true) else (some false)))) else (some false)))) = some r:=H
  have A8:=aM_ A80
  clear A80
  replace H:=oB_ H
  obtain ⟨⟨t298,t299,t302,t305⟩,A90,H⟩:=H
  replace H : ((impl_CheckDef.f k t298 t299 t302 t305).bind fun t309=>(if t309 = t297 then ((laws_toDef.f k a0_0 l0_1 l0_2 l0_3).bind fun bt310=>((laws_eqDef.f k t298 t299 t302 t305 bt310.1 bt310.2.1 bt310.2.2.1 bt310.2.2.2).bind fun t320=>(if t320 = true then (some true) else (some false)))) else (some false))) = some r:=H
  have A9:=aM_ A90
  clear A90
  replace H:=oB_ H
  obtain ⟨t309,A100,H⟩:=H
  replace H : (if t309 = t297 then ((laws_toDef.f k a0_0 l0_1 l0_2 l0_3).bind fun bt310=>((laws_eqDef.f k t298 t299 t302 t305 bt310.1 bt310.2.1 bt310.2.2.1 bt310.2.2.2).bind fun t320=>(if t320 = true then (some true) else (some false)))) else (some false)) = some r:=H
  have A10:=aM_ A100
  clear A100
  by_cases c11 : t309 = t297
  ·rw [if_pos c11] at H
   have c11b0 : (t309 == t297) = true:=beq_iff_eq.mpr c11
   have c11b1 : (t309 != t297) = false:=bne_eq_false_iff_eq.mpr c11
   clear c11
   replace H:=oB_ H
   obtain ⟨⟨t310,t311,t314,t317⟩,A120,H⟩:=H
   replace H : ((laws_eqDef.f k t298 t299 t302 t305 t310 t311 t314 t317).bind fun t320=>(if t320 = true then (some true) else (some false))) = some r:=H
   have A12:=aM_ A120
   clear A120
   replace H:=oB_ H
   obtain ⟨t320,A130,H⟩:=H
   replace H : (if t320 = true then (some true) else (some false)) = some r:=H
   have A13:=aM_ A130
   clear A130
   by_cases c14 : t320 = true
   ·subst c14
    have H1 : (some true) = some r:=by rw [if_pos rfl] at H;exact H
    clear H
    have H:=H1
    clear H1
    obtain rfl:=Option.some.inj H
    go_enter Tryd.func3,Tryd.ntmps3
    try go_wp2_with (first | ((with_reducible refine gate_dst (N:=1) rfl ?_);refine box_event ?hg (N:=1) ?hd (cs:=#[.string a0_0,.slice A0_1 l0_1.length c0_1,.slice A0_2 l0_2.length c0_2,.slice A0_3 l0_3.length c0_3]) (t:=26) ?hr ?_;(case hd=>rfl);(case hg=>rfl);(case hr=>first | (go_simp;done) | (go_simp;rfl));intro gb285 hg w15 hbox hb;have n0_:=aM_ (bT_ (by exact bZ_ HB) hb);have n1_:=aM_ (hbox);have n2_:=aM_ ((by rw [hg];exact (bS_ (by exact bZ_ HB)) : w.heap.size ≤ gb285));have n3_:=aM_ ((by rw [hg];exact (bS_ (by exact bZ_ HB)) : w.heap.size ≤ gb285));clear HB;have HB:=n0_;have BK285:=n1_;have GW285:=n2_;have GE285:=n3_;clear n0_ n1_ n2_ n3_;clear hb hbox hg;have hcz16_0 : w15.cell? ⟨gb285,0,none⟩ = some (.string a0_0):=(kC_ BK285.out 0).trans rfl;have hcz16_1 : w15.cell? ⟨gb285,1,none⟩ = some (.slice A0_1 l0_1.length c0_1):=(kC_ BK285.out 1).trans rfl;have hcz16_2 : w15.cell? ⟨gb285,2,none⟩ = some (.slice A0_2 l0_2.length c0_2):=(kC_ BK285.out 2).trans rfl;have hcz16_3 : w15.cell? ⟨gb285,3,none⟩ = some (.slice A0_3 l0_3.length c0_3):=(kC_ BK285.out 3).trans rfl;have hfz16_0:=kF_ BK285.out 0;have hfz16_1:=kF_ BK285.out 1;have hfz16_2:=kF_ BK285.out 2;have hfz16_3:=kF_ BK285.out 3) | ((with_reducible refine gate_callee (f:=4) rfl ?_);refine goesL_ (some 9) rfl rfl Tryd.func4 (by kernel_rfl) rfl #[.agg #[.string a0_0,.slice A0_1 l0_1.length c0_1,.slice A0_2 l0_2.length c0_2,.slice A0_3 l0_3.length c0_3],.int .i64 1048576] rfl (by (try simp only [mA_,mC_,mN_]);first | done | rfl | (simp only [lD_,lT_];rfl)) ?_;(with_reducible refine (laws_szDef.calls k a0_0 _ _ l0_1 _ _ l0_2 _ _ l0_3 1048576 t286 _ ?side1 ?side2 ?side3 ?side4 ?side5 ?side6 A2.out).mono ?_);(case side1=>repeat (first | exact (Kd.C_below HR0_1.out HB.out) | (with_reducible refine cA_ ?_ _) | (with_reducible refine cN_ ?_ _) | (with_reducible refine cD_ ?_)));(case side2=>exact HC0_1.out);(case side3=>repeat (first | exact (Kd.C_below HR0_2.out HB.out) | (with_reducible refine cA_ ?_ _) | (with_reducible refine cN_ ?_ _) | (with_reducible refine cD_ ?_)));(case side4=>exact HC0_2.out);(case side5=>repeat (first | exact (Kd.C_below HR0_3.out HB.out) | (with_reducible refine cA_ ?_ _) | (with_reducible refine cN_ ?_ _) | (with_reducible refine cD_ ?_)));(case side6=>exact HC0_3.out);rintro e w17 ⟨rfl,hb⟩;refine ⟨_,rfl,?_⟩;have n0_:=aM_ (blk_below (g:=gb285) (o:=.cells #[.string a0_0,.slice A0_1 l0_1.length c0_1,.slice A0_2 l0_2.length c0_2,.slice A0_3 l0_3.length c0_3] 26 (0,0)) (by exact kZ_ BK285) hb);have n1_:=aM_ (bT_ (by exact bZ_ HB) hb);clear BK285;clear HB;have BK285:=n0_;have HB:=n1_;clear n0_ n1_;(try clear hb);(try clear hb2);(try clear hk);(try clear hi);have hcz18_0 : w17.cell? ⟨gb285,0,none⟩ = some (.string a0_0):=(kC_ BK285.out 0).trans rfl;have hcz18_1 : w17.cell? ⟨gb285,1,none⟩ = some (.slice A0_1 l0_1.length c0_1):=(kC_ BK285.out 1).trans rfl;have hcz18_2 : w17.cell? ⟨gb285,2,none⟩ = some (.slice A0_2 l0_2.length c0_2):=(kC_ BK285.out 2).trans rfl;have hcz18_3 : w17.cell? ⟨gb285,3,none⟩ = some (.slice A0_3 l0_3.length c0_3):=(kC_ BK285.out 3).trans rfl;have hfz18_0:=kF_ BK285.out 0;have hfz18_1:=kF_ BK285.out 1;have hfz18_2:=kF_ BK285.out 2;have hfz18_3:=kF_ BK285.out 3) | ((with_reducible refine gate_callee (f:=6) rfl ?_);refine goesL_ (some 13) rfl rfl Tryd.func6 (by kernel_rfl) rfl #[.agg #[.string a0_0,.slice A0_1 l0_1.length c0_1,.slice A0_2 l0_2.length c0_2,.slice A0_3 l0_3.length c0_3]] rfl (by (try simp only [mA_,mC_,mN_]);first | done | rfl | (simp only [lD_,lT_];rfl)) ?_;(with_reducible refine (laws_toDef.calls k a0_0 _ _ l0_1 _ _ l0_2 _ _ l0_3 t287 t288 t291 t294 _ ?side1 ?side2 ?side3 ?side4 ?side5 ?side6 A7.out).mono ?_);(case side1=>repeat (first | exact (Kd.C_below HR0_1.out HB.out) | (with_reducible refine cA_ ?_ _) | (with_reducible refine cN_ ?_ _) | (with_reducible refine cD_ ?_)));(case side2=>exact HC0_1.out);(case side3=>repeat (first | exact (Kd.C_below HR0_2.out HB.out) | (with_reducible refine cA_ ?_ _) | (with_reducible refine cN_ ?_ _) | (with_reducible refine cD_ ?_)));(case side4=>exact HC0_2.out);(case side5=>repeat (first | exact (Kd.C_below HR0_3.out HB.out) | (with_reducible refine cA_ ?_ _) | (with_reducible refine cN_ ?_ _) | (with_reducible refine cD_ ?_)));(case side6=>exact HC0_3.out);rintro e w19 ⟨v289,v292,v295,rfl,ho0,ho1,ho2,hb⟩;refine ⟨_,rfl,?_⟩;have n0_:=aM_ (Kd.R_lower ho0 (bS_ (by exact bZ_ HB)));have n1_:=aM_ (Kd.R_lower ho1 (bS_ (by exact bZ_ HB)));have n2_:=aM_ (Kd.S_lower ho2 (bS_ (by exact bZ_ HB)));have n3_:=aM_ (blk_below (g:=gb285) (o:=.cells #[.string a0_0,.slice A0_1 l0_1.length c0_1,.slice A0_2 l0_2.length c0_2,.slice A0_3 l0_3.length c0_3] 26 (0,0)) (by exact kZ_ BK285) hb);have n4_:=aM_ (bT_ (by exact bZ_ HB) hb);clear BK285;clear HB;have HO290:=n0_;have HO293:=n1_;have HO296:=n2_;have BK285:=n3_;have HB:=n4_;clear n0_ n1_ n2_ n3_ n4_;(try clear hb);(try clear hb2);(try clear hk);(try clear hi);(try clear ho0);(try clear ho1);(try clear ho2);obtain ⟨Ao20,co20,eo20⟩:=Kd.R_slice HO290.out;subst eo20;obtain ⟨Ao21,co21,eo21⟩:=Kd.R_slice HO293.out;subst eo21;obtain ⟨Ao22,co22,eo22⟩:=Kd.S_slice HO296.out;subst eo22) | ((with_reducible refine gate_callee (f:=5) rfl ?_);refine goesL_ (some 14) rfl rfl Tryd.func5 (by kernel_rfl) rfl #[.agg #[.string t287,.slice Ao20 t288.length co20,.slice Ao21 t291.length co21,.slice Ao22 t294.length co22]] rfl (by (try simp only [mA_,mC_,mN_]);first | done | rfl | (simp only [lD_,lT_];rfl)) ?_;(with_reducible refine (spec_CheckDef.calls k t287 _ _ t288 _ _ t291 _ _ t294 t297 _ ?side1 ?side2 ?side3 ?side4 ?side5 ?side6 A8.out).mono ?_);(case side1=>repeat (first | exact (Kd.R_reads' HO290.out).2.2 | (with_reducible refine cA_ ?_ _) | (with_reducible refine cN_ ?_ _) | (with_reducible refine cD_ ?_)));(case side2=>exact (Kd.R_reads' HO290.out).2.1);(case side3=>repeat (first | exact (Kd.R_reads' HO293.out).2.2 | (with_reducible refine cA_ ?_ _) | (with_reducible refine cN_ ?_ _) | (with_reducible refine cD_ ?_)));(case side4=>exact (Kd.R_reads' HO293.out).2.1);(case side5=>repeat (first | exact (Kd.S_reads' HO296.out).2.2 | (with_reducible refine cA_ ?_ _) | (with_reducible refine cN_ ?_ _) | (with_reducible refine cD_ ?_)));(case side6=>exact (Kd.S_reads' HO296.out).2.1);rintro e w23 ⟨rfl,hb⟩;refine ⟨_,rfl,?_⟩;have n0_:=aM_ (Kd.R_below (by exact rZ_ HO290) hb);have n1_:=aM_ (Kd.R_below (by exact rZ_ HO293) hb);have n2_:=aM_ (Kd.S_below (by (with_reducible repeat (first | apply Kd.S_alloc | apply Kd.S_drewN | apply Kd.S_drew));exact HO296.out) hb);have n3_:=aM_ (blk_below (g:=gb285) (o:=.cells #[.string a0_0,.slice A0_1 l0_1.length c0_1,.slice A0_2 l0_2.length c0_2,.slice A0_3 l0_3.length c0_3] 26 (0,0)) (by exact kZ_ BK285) hb);have n4_:=aM_ (bT_ (by exact bZ_ HB) hb);clear HO290;clear HO293;clear HO296;clear BK285;clear HB;have HO290:=n0_;have HO293:=n1_;have HO296:=n2_;have BK285:=n3_;have HB:=n4_;clear n0_ n1_ n2_ n3_ n4_;(try clear hb);(try clear hb2);(try clear hk);(try clear hi);have hcz24_0 : w23.cell? ⟨gb285,0,none⟩ = some (.string a0_0):=(kC_ BK285.out 0).trans rfl;have hcz24_1 : w23.cell? ⟨gb285,1,none⟩ = some (.slice A0_1 l0_1.length c0_1):=(kC_ BK285.out 1).trans rfl;have hcz24_2 : w23.cell? ⟨gb285,2,none⟩ = some (.slice A0_2 l0_2.length c0_2):=(kC_ BK285.out 2).trans rfl;have hcz24_3 : w23.cell? ⟨gb285,3,none⟩ = some (.slice A0_3 l0_3.length c0_3):=(kC_ BK285.out 3).trans rfl;have hfz24_0:=kF_ BK285.out 0;have hfz24_1:=kF_ BK285.out 1;have hfz24_2:=kF_ BK285.out 2;have hfz24_3:=kF_ BK285.out 3) | ((with_reducible refine gate_callee (f:=6) rfl ?_);refine goesL_ (some 16) rfl rfl Tryd.func6 (by kernel_rfl) rfl #[.agg #[.string a0_0,.slice A0_1 l0_1.length c0_1,.slice A0_2 l0_2.length c0_2,.slice A0_3 l0_3.length c0_3]] rfl (by (try simp only [mA_,mC_,mN_]);first | done | rfl | (simp only [lD_,lT_];rfl)) ?_;(with_reducible refine (laws_toDef.calls k a0_0 _ _ l0_1 _ _ l0_2 _ _ l0_3 t298 t299 t302 t305 _ ?side1 ?side2 ?side3 ?side4 ?side5 ?side6 A9.out).mono ?_);(case side1=>repeat (first | exact (Kd.C_below HR0_1.out HB.out) | (with_reducible refine cA_ ?_ _) | (with_reducible refine cN_ ?_ _) | (with_reducible refine cD_ ?_)));(case side2=>exact HC0_1.out);(case side3=>repeat (first | exact (Kd.C_below HR0_2.out HB.out) | (with_reducible refine cA_ ?_ _) | (with_reducible refine cN_ ?_ _) | (with_reducible refine cD_ ?_)));(case side4=>exact HC0_2.out);(case side5=>repeat (first | exact (Kd.C_below HR0_3.out HB.out) | (with_reducible refine cA_ ?_ _) | (with_reducible refine cN_ ?_ _) | (with_reducible refine cD_ ?_)));(case side6=>exact HC0_3.out);rintro e w25 ⟨v300,v303,v306,rfl,ho0,ho1,ho2,hb⟩;refine ⟨_,rfl,?_⟩;have n0_:=aM_ (Kd.R_elder' (by exact rZ_ HO290) (Kd.R_base ho0) hb);have n1_:=aM_ (Kd.R_elder' (by exact rZ_ HO293) (Kd.R_base ho1) hb);have n2_:=aM_ (Kd.S_mono (Kd.S_told (Kd.S_told (Kd.S_old (by (with_reducible repeat (first | apply Kd.S_alloc | apply Kd.S_drewN | apply Kd.S_drew));exact HO296.out) hb) (Kd.R_base ho1)) (Kd.S_base ho2)) (fun _ h_=>h_.1));have n3_:=aM_ (Kd.R_lower (Kd.R_new' ho0 (Kd.R_lt (by exact rZ_ HO290))) (bS_ (by exact bZ_ HB)));have n4_:=aM_ (Kd.R_lower (Kd.R_new' ho1 (Kd.R_lt (by exact rZ_ HO293))) (bS_ (by exact bZ_ HB)));have n5_:=aM_ (Kd.S_lower (Kd.S_new' (Kd.S_new' ho2 (Kd.R_lt (by exact rZ_ HO293))) (Kd.S_lt (by (with_reducible repeat (first | apply Kd.S_alloc | apply Kd.S_drewN | apply Kd.S_drew));exact HO296.out))) (bS_ (by exact bZ_ HB)));have n6_:=aM_ (blk_below (g:=gb285) (o:=.cells #[.string a0_0,.slice A0_1 l0_1.length c0_1,.slice A0_2 l0_2.length c0_2,.slice A0_3 l0_3.length c0_3] 26 (0,0)) (by exact kZ_ BK285) hb);have n7_:=aM_ (bT_ (by exact bZ_ HB) hb);clear HO290;clear HO293;clear HO296;clear BK285;clear HB;have HO290:=n0_;have HO293:=n1_;have HO296:=n2_;have HO301:=n3_;have HO304:=n4_;have HO307:=n5_;have BK285:=n6_;have HB:=n7_;clear n0_ n1_ n2_ n3_ n4_ n5_ n6_ n7_;(try clear hb);(try clear hb2);(try clear hk);(try clear hi);(try clear ho0);(try clear ho1);(try clear ho2)) | ((with_reducible refine gate_dst (N:=5) rfl ?_);refine box_event ?hg (N:=5) ?hd (cs:=#[.string (⟨#[]⟩ : ByteArray),.slice none 0 0,.slice none 0 0,.slice none 0 0]) (t:=33) ?hr ?_;(case hd=>rfl);(case hg=>rfl);(case hr=>first | (go_simp;done) | (go_simp;rfl));intro gb308 hg w26 hbox hb;have n0_:=aM_ (Kd.R_below (by exact rZ_ HO290) hb);have n1_:=aM_ (Kd.R_below (by exact rZ_ HO293) hb);have n2_:=aM_ (Kd.S_below (by (with_reducible repeat (first | apply Kd.S_alloc | apply Kd.S_drewN | apply Kd.S_drew));exact HO296.out) hb);have n3_:=aM_ (Kd.R_below (by exact rZ_ HO301) hb);have n4_:=aM_ (Kd.R_below (by exact rZ_ HO304) hb);have n5_:=aM_ (Kd.S_below (by (with_reducible repeat (first | apply Kd.S_alloc | apply Kd.S_drewN | apply Kd.S_drew));exact HO307.out) hb);have n6_:=aM_ (blk_below (g:=gb285) (o:=.cells #[.string a0_0,.slice A0_1 l0_1.length c0_1,.slice A0_2 l0_2.length c0_2,.slice A0_3 l0_3.length c0_3] 26 (0,0)) (by exact kZ_ BK285) hb);have n7_:=aM_ (bT_ (by exact bZ_ HB) hb);have n8_:=aM_ (hbox);have n9_:=aM_ ((by rw [hg];exact (bS_ (by exact bZ_ HB)) : w.heap.size ≤ gb308));have n10_:=aM_ ((by rw [hg];exact (bS_ (by exact bZ_ HB)) : w.heap.size ≤ gb308));have n11_:=aM_ ((by rw [hg];exact Nat.ne_of_lt (blk_lt (g:=gb285) (o:=.cells #[.string a0_0,.slice A0_1 l0_1.length c0_1,.slice A0_2 l0_2.length c0_2,.slice A0_3 l0_3.length c0_3] 26 (0,0)) (by exact kZ_ BK285)) : gb285 ≠ gb308));have n12_:=aM_ ((by rw [hg];exact Nat.ne_of_gt (blk_lt (g:=gb285) (o:=.cells #[.string a0_0,.slice A0_1 l0_1.length c0_1,.slice A0_2 l0_2.length c0_2,.slice A0_3 l0_3.length c0_3] 26 (0,0)) (by exact kZ_ BK285)) : gb308 ≠ gb285));clear HO290;clear HO293;clear HO296;clear HO301;clear HO304;clear HO307;clear BK285;clear HB;have HO290:=n0_;have HO293:=n1_;have HO296:=n2_;have HO301:=n3_;have HO304:=n4_;have HO307:=n5_;have BK285:=n6_;have HB:=n7_;have BK308:=n8_;have GW308:=n9_;have GE308:=n10_;have NB285_308:=n11_;have NB308_285:=n12_;clear n0_ n1_ n2_ n3_ n4_ n5_ n6_ n7_ n8_ n9_ n10_ n11_ n12_;clear hb hbox hg;have hnb27:=NB308_285.out;have hnc27:=NB285_308.out;have hcz28_0 : w26.cell? ⟨gb308,0,none⟩ = some (.string (⟨#[]⟩ : ByteArray)):=(kC_ BK308.out 0).trans rfl;have hcz28_1 : w26.cell? ⟨gb308,1,none⟩ = some (.slice none 0 0):=(kC_ BK308.out 1).trans rfl;have hcz28_2 : w26.cell? ⟨gb308,2,none⟩ = some (.slice none 0 0):=(kC_ BK308.out 2).trans rfl;have hcz28_3 : w26.cell? ⟨gb308,3,none⟩ = some (.slice none 0 0):=(kC_ BK308.out 3).trans rfl;have hfz28_0:=kF_ BK308.out 0;have hfz28_1:=kF_ BK308.out 1;have hfz28_2:=kF_ BK308.out 2;have hfz28_3:=kF_ BK308.out 3;obtain ⟨Ao29,co29,eo29⟩:=Kd.R_slice HO301.out;subst eo29;obtain ⟨Ao30,co30,eo30⟩:=Kd.R_slice HO304.out;subst eo30;obtain ⟨Ao31,co31,eo31⟩:=Kd.S_slice HO307.out;subst eo31) | ((with_reducible refine gate_callee (f:=7) rfl ?_);refine goesL_ (some 18) rfl rfl Tryd.func7 (by kernel_rfl) rfl #[.agg #[.string t298,.slice Ao29 t299.length co29,.slice Ao30 t302.length co30,.slice Ao31 t305.length co31]] rfl (by (try simp only [mA_,mC_,mN_]);first | done | rfl | (simp only [lD_,lT_];rfl)) ?_;(with_reducible refine (impl_CheckDef.calls k t298 _ _ t299 _ _ t302 _ _ t305 t309 _ ?side1 ?side2 ?side3 ?side4 ?side5 ?side6 A10.out).mono ?_);(case side1=>refine (Kd.R_reads' (e:=42) (base:=w.heap.size) (ok:=fun k_=>(True ∧ some k_ ≠ (.slice Ao20 t288.length co20 : Value).ownBlock)) (n:=t299.length) (c:=co29) ?_).2.2;exact (by (with_reducible repeat (first | apply rA_ | apply rN_ | apply rD_));exact (Kd.R_mono (Kd.R_far (p:=⟨gb308,3,none⟩) (Kd.R_far (p:=⟨gb308,2,none⟩) (Kd.R_far (p:=⟨gb308,1,none⟩) (Kd.R_far (p:=⟨gb308,0,none⟩) (Kd.R_types HO301.out BK308.out (by decide)) (fun _ hk=>hk.2) (.string t298)) (fun _ hk=>hk.2) (.slice Ao29 t299.length co29)) (fun _ hk=>hk.2) (.slice Ao30 t302.length co30)) (fun _ hk=>hk.2) (.slice Ao31 t305.length co31)) (fun _ h_=>h_.1))));(case side2=>exact (Kd.R_reads' HO301.out).2.1);(case side3=>refine (Kd.R_reads' (e:=44) (base:=w.heap.size) (ok:=fun k_=>(True ∧ some k_ ≠ (.slice Ao21 t291.length co21 : Value).ownBlock)) (n:=t302.length) (c:=co30) ?_).2.2;exact (by (with_reducible repeat (first | apply rA_ | apply rN_ | apply rD_));exact (Kd.R_mono (Kd.R_far (p:=⟨gb308,3,none⟩) (Kd.R_far (p:=⟨gb308,2,none⟩) (Kd.R_far (p:=⟨gb308,1,none⟩) (Kd.R_far (p:=⟨gb308,0,none⟩) (Kd.R_types HO304.out BK308.out (by decide)) (fun _ hk=>hk.2) (.string t298)) (fun _ hk=>hk.2) (.slice Ao29 t299.length co29)) (fun _ hk=>hk.2) (.slice Ao30 t302.length co30)) (fun _ hk=>hk.2) (.slice Ao31 t305.length co31)) (fun _ h_=>h_.1))));(case side4=>exact (Kd.R_reads' HO304.out).2.1);(case side5=>refine (Kd.S_reads' (e:=50) (base:=w.heap.size) (ok:=fun k_=>((some k_ ≠ (.slice Ao30 t302.length co30 : Value).ownBlock ∧ some k_ ≠ (.slice Ao21 t291.length co21 : Value).ownBlock) ∧ some k_ ≠ (.slice Ao22 t294.length co22 : Value).ownBlock)) (n:=t305.length) (c:=co31) ?_).2.2;exact (by (with_reducible repeat (first | apply Kd.S_alloc | apply Kd.S_drewN | apply Kd.S_drew));exact (Kd.S_mono (Kd.S_far (p:=⟨gb308,3,none⟩) (Kd.S_far (p:=⟨gb308,2,none⟩) (Kd.S_far (p:=⟨gb308,1,none⟩) (Kd.S_far (p:=⟨gb308,0,none⟩) (Kd.S_types HO307.out BK308.out (by decide)) (fun _ hk=>hk.2) (.string t298)) (fun _ hk=>hk.2) (.slice Ao29 t299.length co29)) (fun _ hk=>hk.2) (.slice Ao30 t302.length co30)) (fun _ hk=>hk.2) (.slice Ao31 t305.length co31)) (fun _ h_=>h_.1))));(case side6=>exact (Kd.S_reads' HO307.out).2.1);rintro e w32 ⟨rfl,hb⟩;refine ⟨_,rfl,?_⟩;have n0_:=aM_ (Kd.R_below (by (with_reducible repeat (first | apply rA_ | apply rN_ | apply rD_));exact (Kd.R_mono (Kd.R_far (p:=⟨gb308,3,none⟩) (Kd.R_far (p:=⟨gb308,2,none⟩) (Kd.R_far (p:=⟨gb308,1,none⟩) (Kd.R_far (p:=⟨gb308,0,none⟩) (Kd.R_types HO290.out BK308.out (by decide)) (fun _ hk=>hk.2) (.string t298)) (fun _ hk=>hk.2) (.slice Ao29 t299.length co29)) (fun _ hk=>hk.2) (.slice Ao30 t302.length co30)) (fun _ hk=>hk.2) (.slice Ao31 t305.length co31)) (fun _ h_=>h_.1))) hb);have n1_:=aM_ (Kd.R_below (by (with_reducible repeat (first | apply rA_ | apply rN_ | apply rD_));exact (Kd.R_mono (Kd.R_far (p:=⟨gb308,3,none⟩) (Kd.R_far (p:=⟨gb308,2,none⟩) (Kd.R_far (p:=⟨gb308,1,none⟩) (Kd.R_far (p:=⟨gb308,0,none⟩) (Kd.R_types HO293.out BK308.out (by decide)) (fun _ hk=>hk.2) (.string t298)) (fun _ hk=>hk.2) (.slice Ao29 t299.length co29)) (fun _ hk=>hk.2) (.slice Ao30 t302.length co30)) (fun _ hk=>hk.2) (.slice Ao31 t305.length co31)) (fun _ h_=>h_.1))) hb);have n2_:=aM_ (Kd.S_below (by (with_reducible repeat (first | apply Kd.S_alloc | apply Kd.S_drewN | apply Kd.S_drew));exact (Kd.S_mono (Kd.S_far (p:=⟨gb308,3,none⟩) (Kd.S_far (p:=⟨gb308,2,none⟩) (Kd.S_far (p:=⟨gb308,1,none⟩) (Kd.S_far (p:=⟨gb308,0,none⟩) (Kd.S_types HO296.out BK308.out (by decide)) (fun _ hk=>hk.2) (.string t298)) (fun _ hk=>hk.2) (.slice Ao29 t299.length co29)) (fun _ hk=>hk.2) (.slice Ao30 t302.length co30)) (fun _ hk=>hk.2) (.slice Ao31 t305.length co31)) (fun _ h_=>h_.1))) hb);have n3_:=aM_ (Kd.R_below (by (with_reducible repeat (first | apply rA_ | apply rN_ | apply rD_));exact (Kd.R_mono (Kd.R_far (p:=⟨gb308,3,none⟩) (Kd.R_far (p:=⟨gb308,2,none⟩) (Kd.R_far (p:=⟨gb308,1,none⟩) (Kd.R_far (p:=⟨gb308,0,none⟩) (Kd.R_types HO301.out BK308.out (by decide)) (fun _ hk=>hk.2) (.string t298)) (fun _ hk=>hk.2) (.slice Ao29 t299.length co29)) (fun _ hk=>hk.2) (.slice Ao30 t302.length co30)) (fun _ hk=>hk.2) (.slice Ao31 t305.length co31)) (fun _ h_=>h_.1))) hb);have n4_:=aM_ (Kd.R_below (by (with_reducible repeat (first | apply rA_ | apply rN_ | apply rD_));exact (Kd.R_mono (Kd.R_far (p:=⟨gb308,3,none⟩) (Kd.R_far (p:=⟨gb308,2,none⟩) (Kd.R_far (p:=⟨gb308,1,none⟩) (Kd.R_far (p:=⟨gb308,0,none⟩) (Kd.R_types HO304.out BK308.out (by decide)) (fun _ hk=>hk.2) (.string t298)) (fun _ hk=>hk.2) (.slice Ao29 t299.length co29)) (fun _ hk=>hk.2) (.slice Ao30 t302.length co30)) (fun _ hk=>hk.2) (.slice Ao31 t305.length co31)) (fun _ h_=>h_.1))) hb);have n5_:=aM_ (Kd.S_below (by (with_reducible repeat (first | apply Kd.S_alloc | apply Kd.S_drewN | apply Kd.S_drew));exact (Kd.S_mono (Kd.S_far (p:=⟨gb308,3,none⟩) (Kd.S_far (p:=⟨gb308,2,none⟩) (Kd.S_far (p:=⟨gb308,1,none⟩) (Kd.S_far (p:=⟨gb308,0,none⟩) (Kd.S_types HO307.out BK308.out (by decide)) (fun _ hk=>hk.2) (.string t298)) (fun _ hk=>hk.2) (.slice Ao29 t299.length co29)) (fun _ hk=>hk.2) (.slice Ao30 t302.length co30)) (fun _ hk=>hk.2) (.slice Ao31 t305.length co31)) (fun _ h_=>h_.1))) hb);have n6_:=aM_ (blk_below (g:=gb285) (o:=.cells #[.string a0_0,.slice A0_1 l0_1.length c0_1,.slice A0_2 l0_2.length c0_2,.slice A0_3 l0_3.length c0_3] 26 (0,0)) (by exact kW_ BK285) hb);have n7_:=aM_ (blk_below (g:=gb308) (o:=.cells #[.string t298,.slice Ao29 t299.length co29,.slice Ao30 t302.length co30,.slice Ao31 t305.length co31] 33 (0,0)) (by (with_reducible repeat (first | refine kN_ ?_ _ | refine kD_ ?_ | refine kA_ ?_ _));refine kP_ (cs:=#[.string t298,.slice Ao29 t299.length co29,.slice Ao30 t302.length co30,.slice none 0 0]) ?_ 3 _ rfl;(with_reducible repeat (first | refine kN_ ?_ _ | refine kD_ ?_ | refine kA_ ?_ _));refine kP_ (cs:=#[.string t298,.slice Ao29 t299.length co29,.slice none 0 0,.slice none 0 0]) ?_ 2 _ rfl;(with_reducible repeat (first | refine kN_ ?_ _ | refine kD_ ?_ | refine kA_ ?_ _));refine kP_ (cs:=#[.string t298,.slice none 0 0,.slice none 0 0,.slice none 0 0]) ?_ 1 _ rfl;(with_reducible repeat (first | refine kN_ ?_ _ | refine kD_ ?_ | refine kA_ ?_ _));refine kP_ (cs:=#[.string (⟨#[]⟩ : ByteArray),.slice none 0 0,.slice none 0 0,.slice none 0 0]) ?_ 0 _ rfl;exact kZ_ BK308) hb);have n8_:=aM_ (bT_ (by exact bZ_ HB) hb);clear HO290;clear HO293;clear HO296;clear HO301;clear HO304;clear HO307;clear BK285;clear BK308;clear HB;have HO290:=n0_;have HO293:=n1_;have HO296:=n2_;have HO301:=n3_;have HO304:=n4_;have HO307:=n5_;have BK285:=n6_;have BK308:=n7_;have HB:=n8_;clear n0_ n1_ n2_ n3_ n4_ n5_ n6_ n7_ n8_;(try clear hb);(try clear hb2);(try clear hk);(try clear hi)))
    have n0_:=aM_ (rD_ HO290.out)
    have n1_:=aM_ (rD_ HO293.out)
    have n2_:=aM_ (Kd.S_drew HO296.out)
    have n3_:=aM_ (rD_ HO301.out)
    have n4_:=aM_ (rD_ HO304.out)
    have n5_:=aM_ (Kd.S_drew HO307.out)
    have n6_:=aM_ (kD_ BK285.out)
    have n7_:=aM_ (kD_ BK308.out)
    have n8_:=aM_ (bD_ HB.out)
    clear HO290
    clear HO293
    clear HO296
    clear HO301
    clear HO304
    clear HO307
    clear BK285
    clear BK308
    clear HB
    have HO290:=n0_
    have HO293:=n1_
    have HO296:=n2_
    have HO301:=n3_
    have HO304:=n4_
    have HO307:=n5_
    have BK285:=n6_
    have BK308:=n7_
    have HB:=n8_
    clear n0_ n1_ n2_ n3_ n4_ n5_ n6_ n7_ n8_
    refine start_ (n:=5) (S:=fun w'=>w'.cell? ⟨gb308,0,none⟩ = some (.string t298) ∧ w'.cell? ⟨gb308,1,none⟩ = some (.slice Ao29 t299.length co29) ∧ w'.cell? ⟨gb308,2,none⟩ = some (.slice Ao30 t302.length co30) ∧ w'.cell? ⟨gb308,3,none⟩ = some (.slice Ao31 t305.length co31) ∧ w'.cell? ⟨gb285,0,none⟩ = some (.string a0_0) ∧ w'.cell? ⟨gb285,1,none⟩ = some (.slice A0_1 l0_1.length c0_1) ∧ w'.cell? ⟨gb285,2,none⟩ = some (.slice A0_2 l0_2.length c0_2) ∧ w'.cell? ⟨gb285,3,none⟩ = some (.slice A0_3 l0_3.length c0_3)) (ds:=[]) #[false,false,false,false,false] (by kernel_rfl) rfl rfl ⟨(kC_ BK308.out 0).trans rfl,(kC_ BK308.out 1).trans rfl,(kC_ BK308.out 2).trans rfl,(kC_ BK308.out 3).trans rfl,(kC_ BK285.out 0).trans rfl,(kC_ BK285.out 1).trans rfl,(kC_ BK285.out 2).trans rfl,(kC_ BK285.out 3).trans rfl⟩ (fun hHeld=>?_)
    generalize w32.drew = w33 at HO290 HO293 HO296 HO301 HO304 HO307 BK285 BK308 HB hHeld ⊢
    refine take_ (i:=0) (N:=some 22) (v:=?_) (a':=?_) #[true,false,false,false,false] rfl rfl (by kernel_rfl) (fun _ _ _ h=>h) (Or.inl ⟨by rfl,?_⟩) hHeld ?_ ?_
    rotate_left
    ·rintro w' ⟨s0,s1,s2,s3,s4,s5,s6,s7⟩
     go_simp
     with_reducible rfl
    rotate_left
    ·simp only [Act.put,sI_,sZ_,sS_,i64_w,i32_w]
     rfl
    refine take_ (i:=1) (N:=some 23) (v:=?_) (a':=?_) #[true,true,false,false,false] rfl rfl (by kernel_rfl) (fun _ _ _ h=>h) (Or.inl ⟨by rfl,?_⟩) hHeld ?_ ?_
    rotate_left
    ·rintro w' ⟨s0,s1,s2,s3,s4,s5,s6,s7⟩
     go_simp
     with_reducible rfl
    rotate_left
    ·simp only [Act.put,sI_,sZ_,sS_,i64_w,i32_w]
     rfl
    refine one_ (i:=2) (N:=some 24) #[true,true,true,false,false] rfl rfl (by kernel_rfl) (by decide) (fun K hK=>?_)
    refine goes_ Tryd.func6 (by kernel_rfl) rfl #[.agg #[.string a0_0,.slice A0_1 l0_1.length c0_1,.slice A0_2 l0_2.length c0_2,.slice A0_3 l0_3.length c0_3]] (by rfl) rfl rfl (by (try simp only [mA_,mC_,mN_]);first | done | rfl | (simp only [lD_,lT_];rfl)) ?_
    with_reducible refine (laws_toDef.calls k a0_0 _ _ l0_1 _ _ l0_2 _ _ l0_3 t310 t311 t314 t317 _ ?side1 ?side2 ?side3 ?side4 ?side5 ?side6 A12.out).mono ?_
    (case side1=>repeat (first | exact (Kd.C_below HR0_1.out HB.out) | (with_reducible refine cA_ ?_ _) | (with_reducible refine cN_ ?_ _) | (with_reducible refine cD_ ?_)))
    (case side2=>exact HC0_1.out)
    (case side3=>repeat (first | exact (Kd.C_below HR0_2.out HB.out) | (with_reducible refine cA_ ?_ _) | (with_reducible refine cN_ ?_ _) | (with_reducible refine cD_ ?_)))
    (case side4=>exact HC0_2.out)
    (case side5=>repeat (first | exact (Kd.C_below HR0_3.out HB.out) | (with_reducible refine cA_ ?_ _) | (with_reducible refine cN_ ?_ _) | (with_reducible refine cD_ ?_)))
    (case side6=>exact HC0_3.out)
    rintro e w34 ⟨v312,v315,v318,rfl,ho0,ho1,ho2,hb⟩
    refine ⟨_,rfl,?_⟩
    have n0_:=aM_ (Kd.R_elder' (by exact rZ_ HO290) (Kd.R_base ho0) hb)
    have n1_:=aM_ (Kd.R_elder' (by exact rZ_ HO293) (Kd.R_base ho1) hb)
    have n2_:=aM_ (Kd.S_mono (Kd.S_told (Kd.S_told (Kd.S_old (by (with_reducible repeat (first | apply Kd.S_alloc | apply Kd.S_drewN | apply Kd.S_drew));exact HO296.out) hb) (Kd.R_base ho1)) (Kd.S_base ho2)) (fun _ h_=>h_.1))
    have n3_:=aM_ (Kd.R_elder' (by exact rZ_ HO301) (Kd.R_base ho0) hb)
    have n4_:=aM_ (Kd.R_elder' (by exact rZ_ HO304) (Kd.R_base ho1) hb)
    have n5_:=aM_ (Kd.S_mono (Kd.S_told (Kd.S_told (Kd.S_old (by (with_reducible repeat (first | apply Kd.S_alloc | apply Kd.S_drewN | apply Kd.S_drew));exact HO307.out) hb) (Kd.R_base ho1)) (Kd.S_base ho2)) (fun _ h_=>h_.1))
    have n6_:=aM_ (Kd.R_lower (Kd.R_new' (Kd.R_new' ho0 (Kd.R_lt (by exact rZ_ HO290))) (Kd.R_lt (by exact rZ_ HO301))) (bS_ (by exact bZ_ HB)))
    have n7_:=aM_ (Kd.R_lower (Kd.R_new' (Kd.R_new' ho1 (Kd.R_lt (by exact rZ_ HO293))) (Kd.R_lt (by exact rZ_ HO304))) (bS_ (by exact bZ_ HB)))
    have n8_:=aM_ (Kd.S_lower (Kd.S_new' (Kd.S_new' (Kd.S_new' (Kd.S_new' ho2 (Kd.R_lt (by exact rZ_ HO293))) (Kd.S_lt (by (with_reducible repeat (first | apply Kd.S_alloc | apply Kd.S_drewN | apply Kd.S_drew));exact HO296.out))) (Kd.R_lt (by exact rZ_ HO304))) (Kd.S_lt (by (with_reducible repeat (first | apply Kd.S_alloc | apply Kd.S_drewN | apply Kd.S_drew));exact HO307.out))) (bS_ (by exact bZ_ HB)))
    have n9_:=aM_ (blk_below (g:=gb285) (o:=.cells #[.string a0_0,.slice A0_1 l0_1.length c0_1,.slice A0_2 l0_2.length c0_2,.slice A0_3 l0_3.length c0_3] 26 (0,0)) (by exact kZ_ BK285) hb)
    have n10_:=aM_ (blk_below (g:=gb308) (o:=.cells #[.string t298,.slice Ao29 t299.length co29,.slice Ao30 t302.length co30,.slice Ao31 t305.length co31] 33 (0,0)) (by exact kZ_ BK308) hb)
    have n11_:=aM_ (bT_ (by exact bZ_ HB) hb)
    clear HO290
    clear HO293
    clear HO296
    clear HO301
    clear HO304
    clear HO307
    clear BK285
    clear BK308
    clear HB
    have HO290:=n0_
    have HO293:=n1_
    have HO296:=n2_
    have HO301:=n3_
    have HO304:=n4_
    have HO307:=n5_
    have HO313:=n6_
    have HO316:=n7_
    have HO319:=n8_
    have BK285:=n9_
    have BK308:=n10_
    have HB:=n11_
    clear n0_ n1_ n2_ n3_ n4_ n5_ n6_ n7_ n8_ n9_ n10_ n11_
    (try clear hb)
    (try clear hb2)
    (try clear hk)
    (try clear hi)
    (try clear ho0)
    (try clear ho1)
    (try clear ho2)
    obtain ⟨Ao35,co35,eo35⟩:=Kd.R_slice HO313.out
    (first | subst eo35 | (injection eo35 with f1_ f2_ f3_;have f4_:=f1_.symm;have f5_:=f3_.symm;clear f1_ f2_ f3_;subst f4_;subst f5_))
    obtain ⟨Ao36,co36,eo36⟩:=Kd.R_slice HO316.out
    (first | subst eo36 | (injection eo36 with f1_ f2_ f3_;have f4_:=f1_.symm;have f5_:=f3_.symm;clear f1_ f2_ f3_;subst f4_;subst f5_))
    obtain ⟨Ao37,co37,eo37⟩:=Kd.S_slice HO319.out
    (first | subst eo37 | (injection eo37 with f1_ f2_ f3_;have f4_:=f1_.symm;have f5_:=f3_.symm;clear f1_ f2_ f3_;subst f4_;subst f5_))
    refine hK.out _ _ ⟨(kC_ BK308.out 0).trans rfl,(kC_ BK308.out 1).trans rfl,(kC_ BK308.out 2).trans rfl,(kC_ BK308.out 3).trans rfl,(kC_ BK285.out 0).trans rfl,(kC_ BK285.out 1).trans rfl,(kC_ BK285.out 2).trans rfl,(kC_ BK285.out 3).trans rfl⟩ (fun hHeld=>?_)
    clear hK K
    refine norm_ (a':=?_) ?_ ?_
    rotate_left
    ·show Act.put _ (some 24) _ = _
     simp only [Act.put,sI_,sZ_,sS_,i64_w,i32_w]
     rfl
    refine one_ (i:=3) (N:=some 25) #[true,true,true,true,false] rfl rfl (by kernel_rfl) (by decide) (fun K hK=>?_)
    refine goes_ Tryd.func8 (by kernel_rfl) rfl #[.agg #[.string t298,.slice Ao29 t299.length co29,.slice Ao30 t302.length co30,.slice Ao31 t305.length co31],.agg #[.string t310,.slice Ao35 t311.length co35,.slice Ao36 t314.length co36,.slice Ao37 t317.length co37]] (by rfl) rfl rfl (by (try simp only [mA_,mC_,mN_]);first | done | rfl | (simp only [lD_,lT_];rfl)) ?_
    with_reducible refine (laws_eqDef.calls k t298 _ _ t299 _ _ t302 _ _ t305 t310 _ _ t311 _ _ t314 _ _ t317 true _ ?side1 ?side2 ?side3 ?side4 ?side5 ?side6 ?side7 ?side8 ?side9 ?side10 ?side11 ?side12 A13.out).mono ?_
    (case side1=>repeat (first | exact (Kd.R_reads' HO301.out).2.2 | (with_reducible refine cA_ ?_ _) | (with_reducible refine cN_ ?_ _) | (with_reducible refine cD_ ?_)))
    (case side2=>exact (Kd.R_reads' HO301.out).2.1)
    (case side3=>repeat (first | exact (Kd.R_reads' HO304.out).2.2 | (with_reducible refine cA_ ?_ _) | (with_reducible refine cN_ ?_ _) | (with_reducible refine cD_ ?_)))
    (case side4=>exact (Kd.R_reads' HO304.out).2.1)
    (case side5=>repeat (first | exact (Kd.S_reads' HO307.out).2.2 | (with_reducible refine cA_ ?_ _) | (with_reducible refine cN_ ?_ _) | (with_reducible refine cD_ ?_)))
    (case side6=>exact (Kd.S_reads' HO307.out).2.1)
    (case side7=>repeat (first | exact (Kd.R_reads' HO313.out).2.2 | (with_reducible refine cA_ ?_ _) | (with_reducible refine cN_ ?_ _) | (with_reducible refine cD_ ?_)))
    (case side8=>exact (Kd.R_reads' HO313.out).2.1)
    (case side9=>repeat (first | exact (Kd.R_reads' HO316.out).2.2 | (with_reducible refine cA_ ?_ _) | (with_reducible refine cN_ ?_ _) | (with_reducible refine cD_ ?_)))
    (case side10=>exact (Kd.R_reads' HO316.out).2.1)
    (case side11=>repeat (first | exact (Kd.S_reads' HO319.out).2.2 | (with_reducible refine cA_ ?_ _) | (with_reducible refine cN_ ?_ _) | (with_reducible refine cD_ ?_)))
    (case side12=>exact (Kd.S_reads' HO319.out).2.1)
    rintro e w38 ⟨rfl,hb⟩
    refine ⟨_,rfl,?_⟩
    have n0_:=aM_ (Kd.R_below (by exact rZ_ HO290) hb)
    have n1_:=aM_ (Kd.R_below (by exact rZ_ HO293) hb)
    have n2_:=aM_ (Kd.S_below (by (with_reducible repeat (first | apply Kd.S_alloc | apply Kd.S_drewN | apply Kd.S_drew));exact HO296.out) hb)
    have n3_:=aM_ (Kd.R_below (by exact rZ_ HO301) hb)
    have n4_:=aM_ (Kd.R_below (by exact rZ_ HO304) hb)
    have n5_:=aM_ (Kd.S_below (by (with_reducible repeat (first | apply Kd.S_alloc | apply Kd.S_drewN | apply Kd.S_drew));exact HO307.out) hb)
    have n6_:=aM_ (Kd.R_below (by exact rZ_ HO313) hb)
    have n7_:=aM_ (Kd.R_below (by exact rZ_ HO316) hb)
    have n8_:=aM_ (Kd.S_below (by (with_reducible repeat (first | apply Kd.S_alloc | apply Kd.S_drewN | apply Kd.S_drew));exact HO319.out) hb)
    have n9_:=aM_ (blk_below (g:=gb285) (o:=.cells #[.string a0_0,.slice A0_1 l0_1.length c0_1,.slice A0_2 l0_2.length c0_2,.slice A0_3 l0_3.length c0_3] 26 (0,0)) (by exact kZ_ BK285) hb)
    have n10_:=aM_ (blk_below (g:=gb308) (o:=.cells #[.string t298,.slice Ao29 t299.length co29,.slice Ao30 t302.length co30,.slice Ao31 t305.length co31] 33 (0,0)) (by exact kZ_ BK308) hb)
    have n11_:=aM_ (bT_ (by exact bZ_ HB) hb)
    clear HO290
    clear HO293
    clear HO296
    clear HO301
    clear HO304
    clear HO307
    clear HO313
    clear HO316
    clear HO319
    clear BK285
    clear BK308
    clear HB
    have HO290:=n0_
    have HO293:=n1_
    have HO296:=n2_
    have HO301:=n3_
    have HO304:=n4_
    have HO307:=n5_
    have HO313:=n6_
    have HO316:=n7_
    have HO319:=n8_
    have BK285:=n9_
    have BK308:=n10_
    have HB:=n11_
    clear n0_ n1_ n2_ n3_ n4_ n5_ n6_ n7_ n8_ n9_ n10_ n11_
    (try clear hb)
    (try clear hb2)
    (try clear hk)
    (try clear hi)
    refine hK.out _ _ ⟨(kC_ BK308.out 0).trans rfl,(kC_ BK308.out 1).trans rfl,(kC_ BK308.out 2).trans rfl,(kC_ BK308.out 3).trans rfl,(kC_ BK285.out 0).trans rfl,(kC_ BK285.out 1).trans rfl,(kC_ BK285.out 2).trans rfl,(kC_ BK285.out 3).trans rfl⟩ (fun hHeld=>?_)
    clear hK K
    refine norm_ (a':=?_) ?_ ?_
    rotate_left
    ·show Act.put _ (some 25) _ = _
     simp only [Act.put,sI_,sZ_,sS_,i64_w,i32_w]
     rfl
    refine pure_ (i:=4) (N:=some 26) (v:=?_) (a':=?_) #[true,true,true,true,true] rfl rfl (by kernel_rfl) (fun _ _ _ h=>h) (Or.inl ⟨by rfl,?_⟩) ?_ ?_
    rotate_left
    ·intro w'
     go_simp
     with_reducible rfl
    rotate_left
    ·simp only [Act.put,sI_,sZ_,sS_,i64_w,i32_w]
     rfl
    refine done_ (by kernel_rfl) ?_
    try go_wp2
    go_ret
    exact ⟨by first | rfl | (simp [errW_none,errW_some] <;> rfl) | (simp [*, errW_none,errW_some] <;> rfl),by exact bZ_ HB⟩
   ·replace c14:=Bool.eq_false_iff.mpr c14
    subst c14
    have H1 : (some false) = some r:=by rw [if_neg (show ¬ (false = true) by decide)] at H;exact H
    clear H
    have H:=H1
    clear H1
    exact absurd (H.trans (congrArg some hr_.out)) (by simp)
  ·rw [if_neg c11] at H
   have c11b0 : (t309 == t297) = false:=beq_eq_false_iff_ne.mpr c11
   have c11b1 : (t309 != t297) = true:=bne_iff_ne.mpr c11
   exact absurd (H.trans (congrArg some hr_.out)) (by simp)
end Go.Proofs.YtllgmgpfdnofmaaDoor.PFnExactCheckDef
