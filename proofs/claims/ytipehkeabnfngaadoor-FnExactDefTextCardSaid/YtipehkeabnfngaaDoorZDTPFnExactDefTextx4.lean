import Derived.Test.YtipehkeabnfngaaDoorZDTPFnExactDefTextx0
import Derived.Test.YtipehkeabnfngaaDoorZDTPFnExactDefTextx1
import Derived.Test.YtipehkeabnfngaaDoorZDTPFnExactDefTextx2
import Derived.Test.YtipehkeabnfngaaDoorZDTPFnExactDefTextx3
import Derived.Test.YtipehkeabnfngaaDoorZDTShelf
namespace Go.Proofs.YtipehkeabnfngaaDoor.PFnExactDefText
open Go.RowKit Go.Proofs.YtipehkeabnfngaaDoorW.PrintWords Go.Proofs.YtipehkeabnfngaaDoorW.PrintLast Go.Proofs.YtipehkeabnfngaaDoorW.PrintMore Go.Proofs.YtipehkeabnfngaaDoor.Xtra
attribute [local go_sem] max2_int min2_int max_two min_two max_three min_three max_four min_four str_leq str_gtr str_geq setCell_drewN cell_set2 cell_set3   -- for this text's walks alone
set_option linter.unusedVariables false
set_option linter.unusedSimpArgs false
mutual
def impl_CheckDef.l0 : Nat → List (S82) → Int → Int → ByteArray → List (S82) → List (S85) → List (S69) → Option (Int)
 | 0,_,_,_,_,_,_,_=>none
 | k + 1,x18,x19,x20,x146000,x146001,x146002,x146003=>if x20 < x19 then (if 0 ≤ x20 then (if x20 < (x18.length : Int) then ((impl_in.f ((rd_T82 x18 x20).f1) 1 4).bind fun t150=>(if t150 = true then (impl_CheckDef.l0 k x18 x19 (wrap64 (x20 + 1)) x146000 x146001 x146002 x146003) else (some 2))) else (none)) else (none)) else ((impl_twice.f k x146000 x146001 x146002 x146003).bind fun t151=>(if t151 = true then (some 3) else (if (x146003.length : Int) > 2 then (some 6) else (impl_CheckDef.l1 k x146003 (x146003.length : Int) 0 x146000 x146001 x146002 x146003))))
def impl_CheckDef.l1 : Nat → List (S69) → Int → Int → ByteArray → List (S82) → List (S85) → List (S69) → Option (Int)
 | 0,_,_,_,_,_,_,_=>none
 | k + 1,x36,x37,x38,x146000,x146001,x146002,x146003=>if x38 < x37 then (if 0 ≤ x38 then (if x38 < (x36.length : Int) then ((impl_partsOk.f k x146000 x146001 x146002 x146003 ((rd_T69 x36 x38).f2)).bind fun t154=>(if t154 = true then (impl_CheckDef.l1 k x36 x37 (wrap64 (x38 + 1)) x146000 x146001 x146002 x146003) else (some 5))) else (none)) else (none)) else ((impl_partsOk.f k x146000 x146001 x146002 x146003 x146002).bind fun t155=>(if t155 = true then (impl_CheckDef.l2 k x146002 (x146002.length : Int) 0 x146000 x146001 x146002 x146003) else (some 5)))
def impl_CheckDef.l2 : Nat → List (S85) → Int → Int → ByteArray → List (S82) → List (S85) → List (S69) → Option (Int)
 | 0,_,_,_,_,_,_,_=>none
 | k + 1,x54,x55,x56,x146000,x146001,x146002,x146003=>if x56 < x55 then (if 0 ≤ x56 then (if x56 < (x54.length : Int) then (if 0 ≤ ((rd_T85 x54 x56).f0) then (if ((rd_T85 x54 x56).f0) < (x146001.length : Int) then (if (rd_T82 x146001 ((rd_T85 x54 x56).f0)).f2 = true then (some 4) else (impl_CheckDef.l2 k x54 x55 (wrap64 (x56 + 1)) x146000 x146001 x146002 x146003)) else (none)) else (none)) else (none)) else (none)) else (some 0)
end
def impl_CheckDef.f (k : Nat) (a0_0 : ByteArray) (l0_1 : List (S82)) (l0_2 : List (S85)) (l0_3 : List (S69)) : Option (Int):=(impl_namesOk.f k a0_0 l0_1 l0_2 l0_3).bind fun t146=>(if t146 = true then ((impl_in.f (l0_1.length : Int) 1 6).bind fun t147=>(if t147 = true then (impl_CheckDef.l0 k l0_1 (l0_1.length : Int) 0 a0_0 l0_1 l0_2 l0_3) else (some 2))) else (some 1))
theorem impl_CheckDef.mono_l : ∀ k,(∀ y0 y1 y2 y3 y4 y5 y6,LeO (impl_CheckDef.l0 k y0 y1 y2 y3 y4 y5 y6) (impl_CheckDef.l0 (k + 1) y0 y1 y2 y3 y4 y5 y6)) ∧ (∀ y0 y1 y2 y3 y4 y5 y6,LeO (impl_CheckDef.l1 k y0 y1 y2 y3 y4 y5 y6) (impl_CheckDef.l1 (k + 1) y0 y1 y2 y3 y4 y5 y6)) ∧ (∀ y0 y1 y2 y3 y4 y5 y6,LeO (impl_CheckDef.l2 k y0 y1 y2 y3 y4 y5 y6) (impl_CheckDef.l2 (k + 1) y0 y1 y2 y3 y4 y5 y6))
 | 0=>⟨fun _ _ _ _ _ _ _ r h=>by simp [impl_CheckDef.l0] at h,fun _ _ _ _ _ _ _ r h=>by simp [impl_CheckDef.l1] at h,fun _ _ _ _ _ _ _ r h=>by simp [impl_CheckDef.l2] at h⟩
 | k + 1=>by
  obtain ⟨ih0,ih1,ih2⟩:=impl_CheckDef.mono_l k
  refine ⟨?_,?_,?_⟩
  ·intro y0 y1 y2 y3 y4 y5 y6
   unfold impl_CheckDef.l0
   repeat' first
   | (with_reducible exact ih0 _ _ _ _ _ _ _)
   | (with_reducible exact ih1 _ _ _ _ _ _ _)
   | (with_reducible exact ih2 _ _ _ _ _ _ _)
   | (with_reducible exact impl_namesOk.mono _ _ _ _ _)
   | (with_reducible exact impl_partsOk.mono _ _ _ _ _ _)
   | (with_reducible exact impl_twice.mono _ _ _ _ _)
   | (with_reducible exact LeO.refl _)
   | (with_reducible exact LeO.none _)
   | (with_reducible refine LeO.ite ?_ ?_)
   | (with_reducible refine LeO.bind ?_ (fun _=>?_))
   | exact ih0 _ _ _ _ _ _ _
   | exact ih1 _ _ _ _ _ _ _
   | exact ih2 _ _ _ _ _ _ _
   | exact impl_namesOk.mono _ _ _ _ _
   | exact impl_partsOk.mono _ _ _ _ _ _
   | exact impl_twice.mono _ _ _ _ _
   | exact LeO.none _
   | refine LeO.ite ?_ ?_
   | refine LeO.bind ?_ (fun _=>?_)
  ·intro y0 y1 y2 y3 y4 y5 y6
   unfold impl_CheckDef.l1
   repeat' first
   | (with_reducible exact ih0 _ _ _ _ _ _ _)
   | (with_reducible exact ih1 _ _ _ _ _ _ _)
   | (with_reducible exact ih2 _ _ _ _ _ _ _)
   | (with_reducible exact impl_namesOk.mono _ _ _ _ _)
   | (with_reducible exact impl_partsOk.mono _ _ _ _ _ _)
   | (with_reducible exact impl_twice.mono _ _ _ _ _)
   | (with_reducible exact LeO.refl _)
   | (with_reducible exact LeO.none _)
   | (with_reducible refine LeO.ite ?_ ?_)
   | (with_reducible refine LeO.bind ?_ (fun _=>?_))
   | exact ih0 _ _ _ _ _ _ _
   | exact ih1 _ _ _ _ _ _ _
   | exact ih2 _ _ _ _ _ _ _
   | exact impl_namesOk.mono _ _ _ _ _
   | exact impl_partsOk.mono _ _ _ _ _ _
   | exact impl_twice.mono _ _ _ _ _
   | exact LeO.none _
   | refine LeO.ite ?_ ?_
   | refine LeO.bind ?_ (fun _=>?_)
  ·intro y0 y1 y2 y3 y4 y5 y6
   unfold impl_CheckDef.l2
   repeat' first
   | (with_reducible exact ih0 _ _ _ _ _ _ _)
   | (with_reducible exact ih1 _ _ _ _ _ _ _)
   | (with_reducible exact ih2 _ _ _ _ _ _ _)
   | (with_reducible exact impl_namesOk.mono _ _ _ _ _)
   | (with_reducible exact impl_partsOk.mono _ _ _ _ _ _)
   | (with_reducible exact impl_twice.mono _ _ _ _ _)
   | (with_reducible exact LeO.refl _)
   | (with_reducible exact LeO.none _)
   | (with_reducible refine LeO.ite ?_ ?_)
   | (with_reducible refine LeO.bind ?_ (fun _=>?_))
   | exact ih0 _ _ _ _ _ _ _
   | exact ih1 _ _ _ _ _ _ _
   | exact ih2 _ _ _ _ _ _ _
   | exact impl_namesOk.mono _ _ _ _ _
   | exact impl_partsOk.mono _ _ _ _ _ _
   | exact impl_twice.mono _ _ _ _ _
   | exact LeO.none _
   | refine LeO.ite ?_ ?_
   | refine LeO.bind ?_ (fun _=>?_)
theorem impl_CheckDef.mono : ∀ a0 a1 a2 a3 k,LeO (impl_CheckDef.f k a0 a1 a2 a3) (impl_CheckDef.f (k + 1) a0 a1 a2 a3):=by
 intro a0 a1 a2 a3 k
 obtain ⟨ih0,ih1,ih2⟩:=impl_CheckDef.mono_l k
 unfold impl_CheckDef.f
 repeat' first
   | (with_reducible exact ih0 _ _ _ _ _ _ _)
   | (with_reducible exact ih1 _ _ _ _ _ _ _)
   | (with_reducible exact ih2 _ _ _ _ _ _ _)
   | (with_reducible exact impl_namesOk.mono _ _ _ _ _)
   | (with_reducible exact impl_partsOk.mono _ _ _ _ _ _)
   | (with_reducible exact impl_twice.mono _ _ _ _ _)
   | (with_reducible exact LeO.refl _)
   | (with_reducible exact LeO.none _)
   | (with_reducible refine LeO.ite ?_ ?_)
   | (with_reducible refine LeO.bind ?_ (fun _=>?_))
   | exact ih0 _ _ _ _ _ _ _
   | exact ih1 _ _ _ _ _ _ _
   | exact ih2 _ _ _ _ _ _ _
   | exact impl_namesOk.mono _ _ _ _ _
   | exact impl_partsOk.mono _ _ _ _ _ _
   | exact impl_twice.mono _ _ _ _ _
   | exact LeO.none _
   | refine LeO.ite ?_ ?_
   | refine LeO.bind ?_ (fun _=>?_)
set_option maxHeartbeats 8000000 in
set_option maxRecDepth 100000 in
theorem impl_CheckDef.calls (k : Nat) (a0_0 : ByteArray) (A0_1 : Option Addr) (c0_1 : Nat) (l0_1 : List (S82)) (A0_2 : Option Addr) (c0_2 : Nat) (l0_2 : List (S85)) (A0_3 : Option Addr) (c0_3 : Nat) (l0_3 : List (S69)) (r : Int) (w : World) (hr0_1 : Kd.C k82 w A0_1 l0_1.length l0_1) (hc0_1 : l0_1.length ≤ c0_1) (hr0_2 : Kd.C k85 w A0_2 l0_2.length l0_2) (hc0_2 : l0_2.length ≤ c0_2) (hr0_3 : Kd.C k69 w A0_3 l0_3.length l0_3) (hc0_3 : l0_3.length ≤ c0_3) (h : impl_CheckDef.f k a0_0 l0_1 l0_2 l0_3 = some r) :
  Calls Tryd.prog 21 #[.agg #[.string a0_0,.slice A0_1 l0_1.length c0_1,.slice A0_2 l0_2.length c0_2,.slice A0_3 l0_3.length c0_3]] w fun e w'=>e = .returned (.int .i64 r) ∧ Below w.heap.size w w':=by
 have hu35:=Tryd.underlying35
 have hu82:=Tryd.underlying82
 have hu69:=Tryd.underlying69
 have hu85:=Tryd.underlying85
 have HR0_1:=aM_ hr0_1
 have HC0_1:=aM_ hc0_1
 clear hr0_1 hc0_1
 have HR0_2:=aM_ hr0_2
 have HC0_2:=aM_ hc0_2
 clear hr0_2 hc0_2
 have HR0_3:=aM_ hr0_3
 have HC0_3:=aM_ hc0_3
 clear hr0_3 hc0_3
 have HB:=aM_ (Below.refl w.heap.size w)
 have H : ((impl_namesOk.f k a0_0 l0_1 l0_2 l0_3).bind fun t146=>(if t146 = true then ((impl_in.f (l0_1.length : Int) 1 6).bind fun t147=>(if t147 = true then (impl_CheckDef.l0 k l0_1 (l0_1.length : Int) 0 a0_0 l0_1 l0_2 l0_3) else (some 2))) else (some 1))) = some r:=h
 clear h
 replace H:=oB_ H
 obtain ⟨t146,A20,H⟩:=H
 replace H : (if t146 = true then ((impl_in.f (l0_1.length : Int) 1 6).bind fun t147=>(if t147 = true then (impl_CheckDef.l0 k l0_1 (l0_1.length : Int) 0 a0_0 l0_1 l0_2 l0_3) else (some 2))) else (some 1)) = some r:=H
 have A2:=aM_ A20
 clear A20
 by_cases c3 : t146 = true
 ·subst c3
  have H1 : ((impl_in.f (l0_1.length : Int) 1 6).bind fun t147=>(if t147 = true then (impl_CheckDef.l0 k l0_1 (l0_1.length : Int) 0 a0_0 l0_1 l0_2 l0_3) else (some 2))) = some r:=by rw [if_pos rfl] at H;exact H
  clear H
  have H:=H1
  clear H1
  replace H:=oB_ H
  obtain ⟨t147,A40,H⟩:=H
  replace H : (if t147 = true then (impl_CheckDef.l0 k l0_1 (l0_1.length : Int) 0 a0_0 l0_1 l0_2 l0_3) else (some 2)) = some r:=H
  have A4:=aM_ A40
  clear A40
  by_cases c5 : t147 = true
  ·subst c5
   have H1 : (impl_CheckDef.l0 k l0_1 (l0_1.length : Int) 0 a0_0 l0_1 l0_2 l0_3) = some r:=by rw [if_pos rfl] at H;exact H
   clear H
   have H:=H1
   clear H1
   have H':=aM_ H
   clear H
   go_enter Tryd.func21,Tryd.ntmps21
   go_wp2_with (first | ((with_reducible refine gate_dst (N:=1) rfl ?_);refine box_event ?hg (N:=1) ?hd (cs:=#[.string a0_0,.slice A0_1 l0_1.length c0_1,.slice A0_2 l0_2.length c0_2,.slice A0_3 l0_3.length c0_3]) (t:=35) ?hr ?_;(case hd=>rfl);(case hg=>rfl);(case hr=>first | (go_simp;done) | (go_simp;rfl));intro gb145 hg w6 hbox hb;have n0_:=aM_ (bT_ (by exact bZ_ HB) hb);have n1_:=aM_ (hbox);have n2_:=aM_ ((by rw [hg];exact (bS_ (by exact bZ_ HB)) : w.heap.size ≤ gb145));have n3_:=aM_ ((by rw [hg];exact (bS_ (by exact bZ_ HB)) : w.heap.size ≤ gb145));clear HB;have HB:=n0_;have BK145:=n1_;have GW145:=n2_;have GE145:=n3_;clear n0_ n1_ n2_ n3_;clear hb hbox hg;have hcz7_0 : w6.cell? ⟨gb145,0,none⟩ = some (.string a0_0):=(kC_ BK145.out 0).trans rfl;have hcz7_1 : w6.cell? ⟨gb145,1,none⟩ = some (.slice A0_1 l0_1.length c0_1):=(kC_ BK145.out 1).trans rfl;have hcz7_2 : w6.cell? ⟨gb145,2,none⟩ = some (.slice A0_2 l0_2.length c0_2):=(kC_ BK145.out 2).trans rfl;have hcz7_3 : w6.cell? ⟨gb145,3,none⟩ = some (.slice A0_3 l0_3.length c0_3):=(kC_ BK145.out 3).trans rfl;have hfz7_0:=kF_ BK145.out 0;have hfz7_1:=kF_ BK145.out 1;have hfz7_2:=kF_ BK145.out 2;have hfz7_3:=kF_ BK145.out 3) | ((with_reducible refine gate_callee (f:=54) rfl ?_);refine goesL_ (some 10) rfl rfl Tryd.func54 (by kernel_rfl) rfl #[.agg #[.string a0_0,.slice A0_1 l0_1.length c0_1,.slice A0_2 l0_2.length c0_2,.slice A0_3 l0_3.length c0_3]] rfl (by (try simp only [mA_,mC_,mN_]);first | done | rfl | (simp only [lD_,lT_];rfl)) ?_;(with_reducible refine (impl_namesOk.calls k a0_0 _ _ l0_1 _ _ l0_2 _ _ l0_3 true _ ?side1 ?side2 ?side3 ?side4 ?side5 ?side6 A2.out).mono ?_);(case side1=>repeat (first | exact (Kd.C_below HR0_1.out HB.out) | (with_reducible refine cA_ ?_ _) | (with_reducible refine cN_ ?_ _) | (with_reducible refine cD_ ?_)));(case side2=>exact HC0_1.out);(case side3=>repeat (first | exact (Kd.C_below HR0_2.out HB.out) | (with_reducible refine cA_ ?_ _) | (with_reducible refine cN_ ?_ _) | (with_reducible refine cD_ ?_)));(case side4=>exact HC0_2.out);(case side5=>repeat (first | exact (Kd.C_below HR0_3.out HB.out) | (with_reducible refine cA_ ?_ _) | (with_reducible refine cN_ ?_ _) | (with_reducible refine cD_ ?_)));(case side6=>exact HC0_3.out);rintro e w8 ⟨rfl,hb⟩;refine ⟨_,rfl,?_⟩;have n0_:=aM_ (blk_below (g:=gb145) (o:=.cells #[.string a0_0,.slice A0_1 l0_1.length c0_1,.slice A0_2 l0_2.length c0_2,.slice A0_3 l0_3.length c0_3] 35 (0,0)) (by exact kZ_ BK145) hb);have n1_:=aM_ (bT_ (by exact bZ_ HB) hb);clear BK145;clear HB;have BK145:=n0_;have HB:=n1_;clear n0_ n1_;(try clear hb);(try clear hb2);(try clear hk);(try clear hi);have hcz9_0 : w8.cell? ⟨gb145,0,none⟩ = some (.string a0_0):=(kC_ BK145.out 0).trans rfl;have hcz9_1 : w8.cell? ⟨gb145,1,none⟩ = some (.slice A0_1 l0_1.length c0_1):=(kC_ BK145.out 1).trans rfl;have hcz9_2 : w8.cell? ⟨gb145,2,none⟩ = some (.slice A0_2 l0_2.length c0_2):=(kC_ BK145.out 2).trans rfl;have hcz9_3 : w8.cell? ⟨gb145,3,none⟩ = some (.slice A0_3 l0_3.length c0_3):=(kC_ BK145.out 3).trans rfl;have hfz9_0:=kF_ BK145.out 0;have hfz9_1:=kF_ BK145.out 1;have hfz9_2:=kF_ BK145.out 2;have hfz9_3:=kF_ BK145.out 3) | ((with_reducible refine gate_callee (f:=55) rfl ?_);refine goesL_ (some 15) rfl rfl Tryd.func55 (by kernel_rfl) rfl #[.int .i64 (l0_1.length : Int),.int .i64 1,.int .i64 6] rfl (by (try simp only [mA_,mC_,mN_]);first | done | rfl | (simp only [lD_,lT_];rfl)) ?_;(with_reducible refine (impl_in.calls (l0_1.length : Int) 1 6 true _ A4.out).mono ?_);rintro e w' ⟨rfl,⟨nd,rfl⟩⟩;refine ⟨_,rfl,?_⟩))
   (try simp only [Act.put,sI_,sS_,sZ_])
   go_loopg [20] k (fun kq v20 w'=>∃ (x20_1 : Int),v20 = .int .i64 x20_1 ∧ Aside0 (impl_CheckDef.l0 kq l0_1 (l0_1.length : Int) x20_1 a0_0 l0_1 l0_2 l0_3 = some r) ∧ Aside0 (kq ≤ k) ∧ Aside0 (w'.heap[gb145]? = some (.cells #[.string a0_0,(.slice A0_1 l0_1.length c0_1),(.slice A0_2 l0_2.length c0_2),(.slice A0_3 l0_3.length c0_3)] 35 (0,0))) ∧ Aside0 (Below w.heap.size w w'))
   case atStart=>exact ⟨(0),(by first | rfl | (simp;done) | (simp [*];done)),H', ⟨Nat.le_refl _⟩,⟨by exact kZ_ BK145⟩,⟨by exact bZ_ HB⟩⟩
   case round =>
    clear H'
    try clear c2
    try clear p2
    try clear c3
    try clear c5
    try clear hcz7_0
    try clear hcz7_1
    try clear hcz7_2
    try clear hcz7_3
    try clear hcz9_0
    try clear hcz9_1
    try clear hcz9_2
    try clear hcz9_3
    try clear hfz7_0
    try clear hfz7_1
    try clear hfz7_2
    try clear hfz7_3
    try clear hfz9_0
    try clear hfz9_1
    try clear hfz9_2
    try clear hfz9_3
    obtain ⟨x20_1,rfl,HA,HK1,BK145,HB⟩:=hrel
    cases gk with
    | zero=>exact absurd HA.out (by simp [impl_CheckDef.l0])
    | succ k1 =>
     have H:=HA.out
     clear HA
     simp only [impl_CheckDef.l0] at H
     by_cases c10 : x20_1 < (l0_1.length : Int)
     ·rw [if_pos c10] at H
      have c10b0 : decide (x20_1 < (l0_1.length : Int)) = true:=decide_eq_true c10
      clear c10
      by_cases c11 : 0 ≤ x20_1
      ·rw [if_pos c11] at H
       have c11b0 : decide (0 ≤ x20_1) = true:=decide_eq_true c11
       clear c11
       by_cases c12 : x20_1 < (l0_1.length : Int)
       ·rw [if_pos c12] at H
        have c12b0 : decide (x20_1 < (l0_1.length : Int)) = true:=decide_eq_true c12
        clear c12
        replace H:=oB_ H
        obtain ⟨t150,A130,H⟩:=H
        replace H : (if t150 = true then (impl_CheckDef.l0 k1 l0_1 (l0_1.length : Int) (wrap64 (x20_1 + 1)) a0_0 l0_1 l0_2 l0_3) else (some 2)) = some r:=H
        have A13:=aM_ A130
        clear A130
        by_cases c14 : t150 = true
        ·subst c14
         have H1 : (impl_CheckDef.l0 k1 l0_1 (l0_1.length : Int) (wrap64 (x20_1 + 1)) a0_0 l0_1 l0_2 l0_3) = some r:=by rw [if_pos rfl] at H;exact H
         clear H
         have H:=H1
         clear H1
         have H':=aM_ H
         clear H
         have p148 : 0 ≤ (x20_1 : Int):=oT_ (by first | (with_reducible assumption) | assumption)
         have q148 : x20_1 < (l0_1.length : Int):=oT_ (by first | (with_reducible assumption) | assumption)
         obtain ⟨ad148,e148,hx148_0,hx148_1,hx148_2⟩:=at_T82 HR0_1.out x20_1 p148 q148
         cases e148
         replace hx148_0:=(HB.out.cell (wL_ w _ hx148_0)).trans hx148_0
         replace hx148_1:=(HB.out.cell (wL_ w _ hx148_1)).trans hx148_1
         replace hx148_2:=(HB.out.cell (wL_ w _ hx148_2)).trans hx148_2
         replace p148:=eq_true p148
         replace q148:=eq_true q148
         go_wp2_with (first | ((with_reducible refine gate_dst (N:=4) rfl ?_);refine box_event ?hg (N:=4) ?hd (cs:=#[.string (⟨#[]⟩ : ByteArray),.int .i64 0,.bool false]) (t:=82) ?hr ?_;(case hd=>rfl);(case hg=>rfl);(case hr=>first | (go_simp;done) | (go_simp;rfl));intro gb149 hg w15 hbox hb;have n0_:=aM_ (blk_below (g:=gb145) (o:=.cells #[.string a0_0,.slice (some ad148) l0_1.length c0_1,.slice A0_2 l0_2.length c0_2,.slice A0_3 l0_3.length c0_3] 35 (0,0)) (by exact kZ_ BK145) hb);have n1_:=aM_ (bT_ (by exact bZ_ HB) hb);have n2_:=aM_ (hbox);have n3_:=aM_ ((by rw [hg];exact (bS_ (by exact bZ_ HB)) : w.heap.size ≤ gb149));have n4_:=aM_ ((by rw [hg];exact (bS_ (by exact bZ_ HB)) : w.heap.size ≤ gb149));have n5_:=aM_ ((by rw [hg];exact nN_ (blk_lt (g:=gb145) (o:=.cells #[.string a0_0,.slice (some ad148) l0_1.length c0_1,.slice A0_2 l0_2.length c0_2,.slice A0_3 l0_3.length c0_3] 35 (0,0)) (by exact kZ_ BK145)) : gb145 ≠ gb149));have n6_:=aM_ ((by rw [hg];exact Nat.ne_of_gt (blk_lt (g:=gb145) (o:=.cells #[.string a0_0,.slice (some ad148) l0_1.length c0_1,.slice A0_2 l0_2.length c0_2,.slice A0_3 l0_3.length c0_3] 35 (0,0)) (by exact kZ_ BK145)) : gb149 ≠ gb145));clear BK145;clear HB;have BK145:=n0_;have HB:=n1_;have BK149:=n2_;have GW149:=n3_;have GE149:=n4_;have NB145_149:=n5_;have NB149_145:=n6_;clear n0_ n1_ n2_ n3_ n4_ n5_ n6_;clear hb hbox hg;have hnb16:=NB149_145.out;have hnc16:=NB145_149.out;have hcz17_0 : w15.cell? ⟨gb149,0,none⟩ = some (.string (⟨#[]⟩ : ByteArray)):=(kC_ BK149.out 0).trans rfl;have hcz17_1 : w15.cell? ⟨gb149,1,none⟩ = some (.int .i64 0):=(kC_ BK149.out 1).trans rfl;have hcz17_2 : w15.cell? ⟨gb149,2,none⟩ = some (.bool false):=(kC_ BK149.out 2).trans rfl;have hfz17_0:=kF_ BK149.out 0;have hfz17_1:=kF_ BK149.out 1;have hfz17_2:=kF_ BK149.out 2) | ((with_reducible refine gate_callee (f:=55) rfl ?_);refine goesL_ (some 26) rfl rfl Tryd.func55 (by kernel_rfl) rfl #[.int .i64 ((rd_T82 l0_1 x20_1).f1),.int .i64 1,.int .i64 4] rfl (by (try simp only [mA_,mC_,mN_]);first | done | rfl | (simp only [lD_,lT_];rfl)) ?_;(with_reducible refine (impl_in.calls ((rd_T82 l0_1 x20_1).f1) 1 4 true _ A13.out).mono ?_);rintro e w' ⟨rfl,⟨nd,rfl⟩⟩;refine ⟨_,rfl,?_⟩))
         go_roundg k1
         case measure=>have:=HK1.out;omega
         case rel=>exact ⟨(wrap64 (x20_1 + 1)),(by first | rfl | (simp;done) | (simp [*];done)),H', ⟨by have:=HK1.out;omega⟩,⟨by exact kW_ BK145⟩,⟨by exact bZ_ HB⟩⟩
        ·replace c14:=Bool.eq_false_iff.mpr c14
         subst c14
         have H1 : (some 2) = some r:=by rw [if_neg (show ¬ (false = true) by decide)] at H;exact H
         clear H
         have H:=H1
         clear H1
         obtain rfl:=Option.some.inj H
         have p148 : 0 ≤ (x20_1 : Int):=oT_ (by first | (with_reducible assumption) | assumption)
         have q148 : x20_1 < (l0_1.length : Int):=oT_ (by first | (with_reducible assumption) | assumption)
         obtain ⟨ad148,e148,hx148_0,hx148_1,hx148_2⟩:=at_T82 HR0_1.out x20_1 p148 q148
         cases e148
         replace hx148_0:=(HB.out.cell (wL_ w _ hx148_0)).trans hx148_0
         replace hx148_1:=(HB.out.cell (wL_ w _ hx148_1)).trans hx148_1
         replace hx148_2:=(HB.out.cell (wL_ w _ hx148_2)).trans hx148_2
         replace p148:=eq_true p148
         replace q148:=eq_true q148
         go_wp2_with (first | ((with_reducible refine gate_dst (N:=4) rfl ?_);refine box_event ?hg (N:=4) ?hd (cs:=#[.string (⟨#[]⟩ : ByteArray),.int .i64 0,.bool false]) (t:=82) ?hr ?_;(case hd=>rfl);(case hg=>rfl);(case hr=>first | (go_simp;done) | (go_simp;rfl));intro gb149 hg w18 hbox hb;have n0_:=aM_ (blk_below (g:=gb145) (o:=.cells #[.string a0_0,.slice (some ad148) l0_1.length c0_1,.slice A0_2 l0_2.length c0_2,.slice A0_3 l0_3.length c0_3] 35 (0,0)) (by exact kZ_ BK145) hb);have n1_:=aM_ (bT_ (by exact bZ_ HB) hb);have n2_:=aM_ (hbox);have n3_:=aM_ ((by rw [hg];exact (bS_ (by exact bZ_ HB)) : w.heap.size ≤ gb149));have n4_:=aM_ ((by rw [hg];exact (bS_ (by exact bZ_ HB)) : w.heap.size ≤ gb149));have n5_:=aM_ ((by rw [hg];exact nN_ (blk_lt (g:=gb145) (o:=.cells #[.string a0_0,.slice (some ad148) l0_1.length c0_1,.slice A0_2 l0_2.length c0_2,.slice A0_3 l0_3.length c0_3] 35 (0,0)) (by exact kZ_ BK145)) : gb145 ≠ gb149));have n6_:=aM_ ((by rw [hg];exact Nat.ne_of_gt (blk_lt (g:=gb145) (o:=.cells #[.string a0_0,.slice (some ad148) l0_1.length c0_1,.slice A0_2 l0_2.length c0_2,.slice A0_3 l0_3.length c0_3] 35 (0,0)) (by exact kZ_ BK145)) : gb149 ≠ gb145));clear BK145;clear HB;have BK145:=n0_;have HB:=n1_;have BK149:=n2_;have GW149:=n3_;have GE149:=n4_;have NB145_149:=n5_;have NB149_145:=n6_;clear n0_ n1_ n2_ n3_ n4_ n5_ n6_;clear hb hbox hg;have hnb19:=NB149_145.out;have hnc19:=NB145_149.out;have hcz20_0 : w18.cell? ⟨gb149,0,none⟩ = some (.string (⟨#[]⟩ : ByteArray)):=(kC_ BK149.out 0).trans rfl;have hcz20_1 : w18.cell? ⟨gb149,1,none⟩ = some (.int .i64 0):=(kC_ BK149.out 1).trans rfl;have hcz20_2 : w18.cell? ⟨gb149,2,none⟩ = some (.bool false):=(kC_ BK149.out 2).trans rfl;have hfz20_0:=kF_ BK149.out 0;have hfz20_1:=kF_ BK149.out 1;have hfz20_2:=kF_ BK149.out 2) | ((with_reducible refine gate_callee (f:=55) rfl ?_);refine goesL_ (some 26) rfl rfl Tryd.func55 (by kernel_rfl) rfl #[.int .i64 ((rd_T82 l0_1 x20_1).f1),.int .i64 1,.int .i64 4] rfl (by (try simp only [mA_,mC_,mN_]);first | done | rfl | (simp only [lD_,lT_];rfl)) ?_;(with_reducible refine (impl_in.calls ((rd_T82 l0_1 x20_1).f1) 1 4 false _ A13.out).mono ?_);rintro e w' ⟨rfl,⟨nd,rfl⟩⟩;refine ⟨_,rfl,?_⟩))
         go_ret
         exact ⟨by first | rfl | (simp [errW_none,errW_some] <;> rfl) | (simp [*, errW_none,errW_some] <;> rfl),by exact bZ_ HB⟩
       ·rw [if_neg c12] at H
        exact absurd H (by simp)
      ·rw [if_neg c11] at H
       exact absurd H (by simp)
     ·rw [if_neg c10] at H
      have c10b0 : decide (x20_1 < (l0_1.length : Int)) = false:=decide_eq_false c10
      clear c10
      replace H:=oB_ H
      obtain ⟨t151,A210,H⟩:=H
      replace H : (if t151 = true then (some 3) else (if (l0_3.length : Int) > 2 then (some 6) else (impl_CheckDef.l1 k1 l0_3 (l0_3.length : Int) 0 a0_0 l0_1 l0_2 l0_3))) = some r:=H
      have A21:=aM_ A210
      clear A210
      by_cases c22 : t151 = true
      ·subst c22
       have H1 : (some 3) = some r:=by rw [if_pos rfl] at H;exact H
       clear H
       have H:=H1
       clear H1
       obtain rfl:=Option.some.inj H
       have hcz23_0 : wr.cell? ⟨gb145,0,none⟩ = some (.string a0_0):=(kC_ BK145.out 0).trans rfl
       have hcz23_1 : wr.cell? ⟨gb145,1,none⟩ = some (.slice A0_1 l0_1.length c0_1):=(kC_ BK145.out 1).trans rfl
       have hcz23_2 : wr.cell? ⟨gb145,2,none⟩ = some (.slice A0_2 l0_2.length c0_2):=(kC_ BK145.out 2).trans rfl
       have hcz23_3 : wr.cell? ⟨gb145,3,none⟩ = some (.slice A0_3 l0_3.length c0_3):=(kC_ BK145.out 3).trans rfl
       have hfz23_0:=kF_ BK145.out 0
       have hfz23_1:=kF_ BK145.out 1
       have hfz23_2:=kF_ BK145.out 2
       have hfz23_3:=kF_ BK145.out 3
       go_wp2_with (first | ((with_reducible refine gate_callee (f:=56) rfl ?_);refine goesL_ (some 30) rfl rfl Tryd.func56 (by kernel_rfl) rfl #[.agg #[.string a0_0,.slice A0_1 l0_1.length c0_1,.slice A0_2 l0_2.length c0_2,.slice A0_3 l0_3.length c0_3]] rfl (by (try simp only [mA_,mC_,mN_]);first | done | rfl | (simp only [lD_,lT_];rfl)) ?_;(with_reducible refine (impl_twice.calls k1 a0_0 _ _ l0_1 _ _ l0_2 _ _ l0_3 true _ ?side1 ?side2 ?side3 ?side4 ?side5 ?side6 A21.out).mono ?_);(case side1=>repeat (first | exact (Kd.C_below HR0_1.out HB.out) | (with_reducible refine cA_ ?_ _) | (with_reducible refine cN_ ?_ _) | (with_reducible refine cD_ ?_)));(case side2=>exact HC0_1.out);(case side3=>repeat (first | exact (Kd.C_below HR0_2.out HB.out) | (with_reducible refine cA_ ?_ _) | (with_reducible refine cN_ ?_ _) | (with_reducible refine cD_ ?_)));(case side4=>exact HC0_2.out);(case side5=>repeat (first | exact (Kd.C_below HR0_3.out HB.out) | (with_reducible refine cA_ ?_ _) | (with_reducible refine cN_ ?_ _) | (with_reducible refine cD_ ?_)));(case side6=>exact HC0_3.out);rintro e w24 ⟨rfl,hb⟩;refine ⟨_,rfl,?_⟩;have n0_:=aM_ (blk_below (g:=gb145) (o:=.cells #[.string a0_0,.slice A0_1 l0_1.length c0_1,.slice A0_2 l0_2.length c0_2,.slice A0_3 l0_3.length c0_3] 35 (0,0)) (by exact kZ_ BK145) hb);have n1_:=aM_ (bT_ (by exact bZ_ HB) hb);clear BK145;clear HB;have BK145:=n0_;have HB:=n1_;clear n0_ n1_;(try clear hb);(try clear hb2);(try clear hk);(try clear hi)))
       go_ret
       exact ⟨by first | rfl | (simp [errW_none,errW_some] <;> rfl) | (simp [*, errW_none,errW_some] <;> rfl),by exact bZ_ HB⟩
      ·replace c22:=Bool.eq_false_iff.mpr c22
       subst c22
       have H1 : (if (l0_3.length : Int) > 2 then (some 6) else (impl_CheckDef.l1 k1 l0_3 (l0_3.length : Int) 0 a0_0 l0_1 l0_2 l0_3)) = some r:=by rw [if_neg (show ¬ (false = true) by decide)] at H;exact H
       clear H
       have H:=H1
       clear H1
       by_cases c25 : (l0_3.length : Int) > 2
       ·rw [if_pos c25] at H
        have c25b0 : decide (2 < (l0_3.length : Int)) = true:=decide_eq_true c25
        have c25b1 : decide (2 < l0_3.length) = true:=decide_eq_true (by omega)
        clear c25
        obtain rfl:=Option.some.inj H
        have hcz26_0 : wr.cell? ⟨gb145,0,none⟩ = some (.string a0_0):=(kC_ BK145.out 0).trans rfl
        have hcz26_1 : wr.cell? ⟨gb145,1,none⟩ = some (.slice A0_1 l0_1.length c0_1):=(kC_ BK145.out 1).trans rfl
        have hcz26_2 : wr.cell? ⟨gb145,2,none⟩ = some (.slice A0_2 l0_2.length c0_2):=(kC_ BK145.out 2).trans rfl
        have hcz26_3 : wr.cell? ⟨gb145,3,none⟩ = some (.slice A0_3 l0_3.length c0_3):=(kC_ BK145.out 3).trans rfl
        have hfz26_0:=kF_ BK145.out 0
        have hfz26_1:=kF_ BK145.out 1
        have hfz26_2:=kF_ BK145.out 2
        have hfz26_3:=kF_ BK145.out 3
        go_wp2_with (first | ((with_reducible refine gate_callee (f:=56) rfl ?_);refine goesL_ (some 30) rfl rfl Tryd.func56 (by kernel_rfl) rfl #[.agg #[.string a0_0,.slice A0_1 l0_1.length c0_1,.slice A0_2 l0_2.length c0_2,.slice A0_3 l0_3.length c0_3]] rfl (by (try simp only [mA_,mC_,mN_]);first | done | rfl | (simp only [lD_,lT_];rfl)) ?_;(with_reducible refine (impl_twice.calls k1 a0_0 _ _ l0_1 _ _ l0_2 _ _ l0_3 false _ ?side1 ?side2 ?side3 ?side4 ?side5 ?side6 A21.out).mono ?_);(case side1=>repeat (first | exact (Kd.C_below HR0_1.out HB.out) | (with_reducible refine cA_ ?_ _) | (with_reducible refine cN_ ?_ _) | (with_reducible refine cD_ ?_)));(case side2=>exact HC0_1.out);(case side3=>repeat (first | exact (Kd.C_below HR0_2.out HB.out) | (with_reducible refine cA_ ?_ _) | (with_reducible refine cN_ ?_ _) | (with_reducible refine cD_ ?_)));(case side4=>exact HC0_2.out);(case side5=>repeat (first | exact (Kd.C_below HR0_3.out HB.out) | (with_reducible refine cA_ ?_ _) | (with_reducible refine cN_ ?_ _) | (with_reducible refine cD_ ?_)));(case side6=>exact HC0_3.out);rintro e w27 ⟨rfl,hb⟩;refine ⟨_,rfl,?_⟩;have n0_:=aM_ (blk_below (g:=gb145) (o:=.cells #[.string a0_0,.slice A0_1 l0_1.length c0_1,.slice A0_2 l0_2.length c0_2,.slice A0_3 l0_3.length c0_3] 35 (0,0)) (by exact kZ_ BK145) hb);have n1_:=aM_ (bT_ (by exact bZ_ HB) hb);clear BK145;clear HB;have BK145:=n0_;have HB:=n1_;clear n0_ n1_;(try clear hb);(try clear hb2);(try clear hk);(try clear hi);have hcz28_0 : w27.cell? ⟨gb145,0,none⟩ = some (.string a0_0):=(kC_ BK145.out 0).trans rfl;have hcz28_1 : w27.cell? ⟨gb145,1,none⟩ = some (.slice A0_1 l0_1.length c0_1):=(kC_ BK145.out 1).trans rfl;have hcz28_2 : w27.cell? ⟨gb145,2,none⟩ = some (.slice A0_2 l0_2.length c0_2):=(kC_ BK145.out 2).trans rfl;have hcz28_3 : w27.cell? ⟨gb145,3,none⟩ = some (.slice A0_3 l0_3.length c0_3):=(kC_ BK145.out 3).trans rfl;have hfz28_0:=kF_ BK145.out 0;have hfz28_1:=kF_ BK145.out 1;have hfz28_2:=kF_ BK145.out 2;have hfz28_3:=kF_ BK145.out 3))
        go_ret
        exact ⟨by first | rfl | (simp [errW_none,errW_some] <;> rfl) | (simp [*, errW_none,errW_some] <;> rfl),by exact bZ_ HB⟩
       ·rw [if_neg c25] at H
        have c25b0 : decide (2 < (l0_3.length : Int)) = false:=decide_eq_false c25
        have c25b1 : decide (2 < l0_3.length) = false:=decide_eq_false (by omega)
        clear c25
        have H':=aM_ H
        clear H
        have hcz29_0 : wr.cell? ⟨gb145,0,none⟩ = some (.string a0_0):=(kC_ BK145.out 0).trans rfl
        have hcz29_1 : wr.cell? ⟨gb145,1,none⟩ = some (.slice A0_1 l0_1.length c0_1):=(kC_ BK145.out 1).trans rfl
        have hcz29_2 : wr.cell? ⟨gb145,2,none⟩ = some (.slice A0_2 l0_2.length c0_2):=(kC_ BK145.out 2).trans rfl
        have hcz29_3 : wr.cell? ⟨gb145,3,none⟩ = some (.slice A0_3 l0_3.length c0_3):=(kC_ BK145.out 3).trans rfl
        have hfz29_0:=kF_ BK145.out 0
        have hfz29_1:=kF_ BK145.out 1
        have hfz29_2:=kF_ BK145.out 2
        have hfz29_3:=kF_ BK145.out 3
        go_wp2_with (first | ((with_reducible refine gate_callee (f:=56) rfl ?_);refine goesL_ (some 30) rfl rfl Tryd.func56 (by kernel_rfl) rfl #[.agg #[.string a0_0,.slice A0_1 l0_1.length c0_1,.slice A0_2 l0_2.length c0_2,.slice A0_3 l0_3.length c0_3]] rfl (by (try simp only [mA_,mC_,mN_]);first | done | rfl | (simp only [lD_,lT_];rfl)) ?_;(with_reducible refine (impl_twice.calls k1 a0_0 _ _ l0_1 _ _ l0_2 _ _ l0_3 false _ ?side1 ?side2 ?side3 ?side4 ?side5 ?side6 A21.out).mono ?_);(case side1=>repeat (first | exact (Kd.C_below HR0_1.out HB.out) | (with_reducible refine cA_ ?_ _) | (with_reducible refine cN_ ?_ _) | (with_reducible refine cD_ ?_)));(case side2=>exact HC0_1.out);(case side3=>repeat (first | exact (Kd.C_below HR0_2.out HB.out) | (with_reducible refine cA_ ?_ _) | (with_reducible refine cN_ ?_ _) | (with_reducible refine cD_ ?_)));(case side4=>exact HC0_2.out);(case side5=>repeat (first | exact (Kd.C_below HR0_3.out HB.out) | (with_reducible refine cA_ ?_ _) | (with_reducible refine cN_ ?_ _) | (with_reducible refine cD_ ?_)));(case side6=>exact HC0_3.out);rintro e w30 ⟨rfl,hb⟩;refine ⟨_,rfl,?_⟩;have n0_:=aM_ (blk_below (g:=gb145) (o:=.cells #[.string a0_0,.slice A0_1 l0_1.length c0_1,.slice A0_2 l0_2.length c0_2,.slice A0_3 l0_3.length c0_3] 35 (0,0)) (by exact kZ_ BK145) hb);have n1_:=aM_ (bT_ (by exact bZ_ HB) hb);clear BK145;clear HB;have BK145:=n0_;have HB:=n1_;clear n0_ n1_;(try clear hb);(try clear hb2);(try clear hk);(try clear hi);have hcz31_0 : w30.cell? ⟨gb145,0,none⟩ = some (.string a0_0):=(kC_ BK145.out 0).trans rfl;have hcz31_1 : w30.cell? ⟨gb145,1,none⟩ = some (.slice A0_1 l0_1.length c0_1):=(kC_ BK145.out 1).trans rfl;have hcz31_2 : w30.cell? ⟨gb145,2,none⟩ = some (.slice A0_2 l0_2.length c0_2):=(kC_ BK145.out 2).trans rfl;have hcz31_3 : w30.cell? ⟨gb145,3,none⟩ = some (.slice A0_3 l0_3.length c0_3):=(kC_ BK145.out 3).trans rfl;have hfz31_0:=kF_ BK145.out 0;have hfz31_1:=kF_ BK145.out 1;have hfz31_2:=kF_ BK145.out 2;have hfz31_3:=kF_ BK145.out 3))
        (try simp only [Act.put,sI_,sS_,sZ_])
        go_loopg [38] k1 (fun kq v38 w'=>∃ (x38_2 : Int),v38 = .int .i64 x38_2 ∧ Aside0 (impl_CheckDef.l1 kq l0_3 (l0_3.length : Int) x38_2 a0_0 l0_1 l0_2 l0_3 = some r) ∧ Aside0 (kq ≤ k1) ∧ Aside0 (w'.heap[gb145]? = some (.cells #[.string a0_0,(.slice A0_1 l0_1.length c0_1),(.slice A0_2 l0_2.length c0_2),(.slice A0_3 l0_3.length c0_3)] 35 (0,0))) ∧ Aside0 (Below w.heap.size w w'))
        case atStart=>exact ⟨(0),(by first | rfl | (simp;done) | (simp [*];done)),H', ⟨Nat.le_refl _⟩,⟨by exact kZ_ BK145⟩,⟨by exact bZ_ HB⟩⟩
        case round =>
         clear H'
         try clear c1
         try clear p1
         try clear q1
         try clear hx1
         try clear c2
         try clear p2
         try clear c3
         try clear c5
         try clear p6
         try clear c10
         try clear c10b0
         try clear c11
         try clear c11b0
         try clear c12
         try clear c12b0
         try clear c14
         try clear p14
         try clear q14
         try clear hx14
         try clear c16
         try clear c19
         try clear c21
         try clear c22
         try clear c25
         try clear c25b0
         try clear c25b1
         try clear hcz17_0
         try clear hcz17_1
         try clear hcz17_2
         try clear hcz20_0
         try clear hcz20_1
         try clear hcz20_2
         try clear hcz23_0
         try clear hcz23_1
         try clear hcz23_2
         try clear hcz23_3
         try clear hcz26_0
         try clear hcz26_1
         try clear hcz26_2
         try clear hcz26_3
         try clear hcz28_0
         try clear hcz28_1
         try clear hcz28_2
         try clear hcz28_3
         try clear hcz29_0
         try clear hcz29_1
         try clear hcz29_2
         try clear hcz29_3
         try clear hcz31_0
         try clear hcz31_1
         try clear hcz31_2
         try clear hcz31_3
         try clear hcz7_0
         try clear hcz7_1
         try clear hcz7_2
         try clear hcz7_3
         try clear hcz9_0
         try clear hcz9_1
         try clear hcz9_2
         try clear hcz9_3
         try clear hfz17_0
         try clear hfz17_1
         try clear hfz17_2
         try clear hfz20_0
         try clear hfz20_1
         try clear hfz20_2
         try clear hfz23_0
         try clear hfz23_1
         try clear hfz23_2
         try clear hfz23_3
         try clear hfz26_0
         try clear hfz26_1
         try clear hfz26_2
         try clear hfz26_3
         try clear hfz28_0
         try clear hfz28_1
         try clear hfz28_2
         try clear hfz28_3
         try clear hfz29_0
         try clear hfz29_1
         try clear hfz29_2
         try clear hfz29_3
         try clear hfz31_0
         try clear hfz31_1
         try clear hfz31_2
         try clear hfz31_3
         try clear hfz7_0
         try clear hfz7_1
         try clear hfz7_2
         try clear hfz7_3
         try clear hfz9_0
         try clear hfz9_1
         try clear hfz9_2
         try clear hfz9_3
         try clear hx148_0
         try clear hx148_1
         try clear hx148_2
         try clear p148
         try clear p2
         try clear q148
         obtain ⟨x38_2,rfl,HA,HK2,BK145,HB⟩:=hrel
         cases gk with
         | zero=>exact absurd HA.out (by simp [impl_CheckDef.l1])
         | succ k2 =>
          have H:=HA.out
          clear HA
          simp only [impl_CheckDef.l1] at H
          by_cases c32 : x38_2 < (l0_3.length : Int)
          ·rw [if_pos c32] at H
           have c32b0 : decide (x38_2 < (l0_3.length : Int)) = true:=decide_eq_true c32
           clear c32
           by_cases c33 : 0 ≤ x38_2
           ·rw [if_pos c33] at H
            have c33b0 : decide (0 ≤ x38_2) = true:=decide_eq_true c33
            clear c33
            by_cases c34 : x38_2 < (l0_3.length : Int)
            ·rw [if_pos c34] at H
             have c34b0 : decide (x38_2 < (l0_3.length : Int)) = true:=decide_eq_true c34
             clear c34
             replace H:=oB_ H
             obtain ⟨t154,A350,H⟩:=H
             replace H : (if t154 = true then (impl_CheckDef.l1 k2 l0_3 (l0_3.length : Int) (wrap64 (x38_2 + 1)) a0_0 l0_1 l0_2 l0_3) else (some 5)) = some r:=H
             have A35:=aM_ A350
             clear A350
             by_cases c36 : t154 = true
             ·subst c36
              have H1 : (impl_CheckDef.l1 k2 l0_3 (l0_3.length : Int) (wrap64 (x38_2 + 1)) a0_0 l0_1 l0_2 l0_3) = some r:=by rw [if_pos rfl] at H;exact H
              clear H
              have H:=H1
              clear H1
              have H':=aM_ H
              clear H
              have p152 : 0 ≤ (x38_2 : Int):=oT_ (by first | (with_reducible assumption) | assumption)
              have q152 : x38_2 < (l0_3.length : Int):=oT_ (by first | (with_reducible assumption) | assumption)
              obtain ⟨ad152,A152_2,c152_2,e152,hx152_0,hx152_1,hx152_2,hl152_2,hi152_2⟩:=at_T69 HR0_3.out x38_2 p152 q152
              cases e152
              replace hx152_0:=(HB.out.cell (wL_ w _ hx152_0)).trans hx152_0
              replace hx152_1:=(HB.out.cell (wL_ w _ hx152_1)).trans hx152_1
              replace hx152_2:=(HB.out.cell (wL_ w _ hx152_2)).trans hx152_2
              have HR152_2:=aM_ hi152_2
              have HC152_2:=aM_ hl152_2
              clear hi152_2 hl152_2
              replace p152:=eq_true p152
              replace q152:=eq_true q152
              go_wp2_with (first | ((with_reducible refine gate_dst (N:=6) rfl ?_);refine box_event ?hg (N:=6) ?hd (cs:=#[.string (⟨#[]⟩ : ByteArray),.bool false,.slice none 0 0]) (t:=69) ?hr ?_;(case hd=>rfl);(case hg=>rfl);(case hr=>first | (go_simp;done) | (go_simp;rfl));intro gb153 hg w37 hbox hb;have n0_:=aM_ (blk_below (g:=gb145) (o:=.cells #[.string a0_0,.slice A0_1 l0_1.length c0_1,.slice A0_2 l0_2.length c0_2,.slice (some ad152) l0_3.length c0_3] 35 (0,0)) (by exact kZ_ BK145) hb);have n1_:=aM_ (bT_ (by exact bZ_ HB) hb);have n2_:=aM_ (hbox);have n3_:=aM_ ((by rw [hg];exact (bS_ (by exact bZ_ HB)) : w.heap.size ≤ gb153));have n4_:=aM_ ((by rw [hg];exact (bS_ (by exact bZ_ HB)) : w.heap.size ≤ gb153));have n5_:=aM_ ((by rw [hg];exact nN_ (blk_lt (g:=gb145) (o:=.cells #[.string a0_0,.slice A0_1 l0_1.length c0_1,.slice A0_2 l0_2.length c0_2,.slice (some ad152) l0_3.length c0_3] 35 (0,0)) (by exact kZ_ BK145)) : gb145 ≠ gb153));have n6_:=aM_ ((by rw [hg];exact Nat.ne_of_gt (blk_lt (g:=gb145) (o:=.cells #[.string a0_0,.slice A0_1 l0_1.length c0_1,.slice A0_2 l0_2.length c0_2,.slice (some ad152) l0_3.length c0_3] 35 (0,0)) (by exact kZ_ BK145)) : gb153 ≠ gb145));clear BK145;clear HB;have BK145:=n0_;have HB:=n1_;have BK153:=n2_;have GW153:=n3_;have GE153:=n4_;have NB145_153:=n5_;have NB153_145:=n6_;clear n0_ n1_ n2_ n3_ n4_ n5_ n6_;clear hb hbox hg;have hnb38:=NB153_145.out;have hnc38:=NB145_153.out;have hcz39_0 : w37.cell? ⟨gb153,0,none⟩ = some (.string (⟨#[]⟩ : ByteArray)):=(kC_ BK153.out 0).trans rfl;have hcz39_1 : w37.cell? ⟨gb153,1,none⟩ = some (.bool false):=(kC_ BK153.out 1).trans rfl;have hcz39_2 : w37.cell? ⟨gb153,2,none⟩ = some (.slice none 0 0):=(kC_ BK153.out 2).trans rfl;have hfz39_0:=kF_ BK153.out 0;have hfz39_1:=kF_ BK153.out 1;have hfz39_2:=kF_ BK153.out 2;have hcz40_0 : w37.cell? ⟨gb145,0,none⟩ = some (.string a0_0):=(kC_ BK145.out 0).trans rfl;have hcz40_1 : w37.cell? ⟨gb145,1,none⟩ = some (.slice A0_1 l0_1.length c0_1):=(kC_ BK145.out 1).trans rfl;have hcz40_2 : w37.cell? ⟨gb145,2,none⟩ = some (.slice A0_2 l0_2.length c0_2):=(kC_ BK145.out 2).trans rfl;have hcz40_3 : w37.cell? ⟨gb145,3,none⟩ = some (.slice (some ad152) l0_3.length c0_3):=(kC_ BK145.out 3).trans rfl;have hfz40_0:=kF_ BK145.out 0;have hfz40_1:=kF_ BK145.out 1;have hfz40_2:=kF_ BK145.out 2;have hfz40_3:=kF_ BK145.out 3) | ((with_reducible refine gate_callee (f:=57) rfl ?_);refine goesL_ (some 45) rfl rfl Tryd.func57 (by kernel_rfl) rfl #[.agg #[.string a0_0,.slice A0_1 l0_1.length c0_1,.slice A0_2 l0_2.length c0_2,.slice (some ad152) l0_3.length c0_3],.slice A152_2 ((rd_T69 l0_3 x38_2).f2).length c152_2] rfl (by (try simp only [mA_,mC_,mN_]);first | done | rfl | (simp only [lD_,lT_];rfl)) ?_;(with_reducible refine (impl_partsOk.calls k2 a0_0 _ _ l0_1 _ _ l0_2 _ _ l0_3 _ _ ((rd_T69 l0_3 x38_2).f2) true _ ?side1 ?side2 ?side3 ?side4 ?side5 ?side6 ?side7 ?side8 A35.out).mono ?_);(case side1=>exact Kd.C_below HR0_1.out (by exact bZ_ HB));(case side2=>exact HC0_1.out);(case side3=>exact Kd.C_below HR0_2.out (by exact bZ_ HB));(case side4=>exact HC0_2.out);(case side5=>exact Kd.C_below HR0_3.out (by exact bZ_ HB));(case side6=>exact HC0_3.out);(case side7=>exact Kd.C_below HR152_2.out (by exact bZ_ HB));(case side8=>exact HC152_2.out);rintro e w41 ⟨rfl,hb⟩;refine ⟨_,rfl,?_⟩;have n0_:=aM_ (blk_below (g:=gb145) (o:=.cells #[.string a0_0,.slice A0_1 l0_1.length c0_1,.slice A0_2 l0_2.length c0_2,.slice (some ad152) l0_3.length c0_3] 35 (0,0)) (by exact kW_ BK145) hb);have n1_:=aM_ (blk_below (g:=gb153) (o:=.cells #[.string ((rd_T69 l0_3 x38_2).f0),.bool ((rd_T69 l0_3 x38_2).f1),.slice A152_2 ((rd_T69 l0_3 x38_2).f2).length c152_2] 69 (0,0)) (by (with_reducible repeat (first | refine kN_ ?_ _ | refine kD_ ?_ | refine kA_ ?_ _));refine kP_ (cs:=#[.string ((rd_T69 l0_3 x38_2).f0),.bool ((rd_T69 l0_3 x38_2).f1),.slice none 0 0]) ?_ 2 _ rfl;(with_reducible repeat (first | refine kN_ ?_ _ | refine kD_ ?_ | refine kA_ ?_ _));refine kP_ (cs:=#[.string ((rd_T69 l0_3 x38_2).f0),.bool false,.slice none 0 0]) ?_ 1 _ rfl;(with_reducible repeat (first | refine kN_ ?_ _ | refine kD_ ?_ | refine kA_ ?_ _));refine kP_ (cs:=#[.string (⟨#[]⟩ : ByteArray),.bool false,.slice none 0 0]) ?_ 0 _ rfl;exact kZ_ BK153) hb);have n2_:=aM_ (bT_ (by exact bZ_ HB) hb);clear BK145;clear BK153;clear HB;have BK145:=n0_;have BK153:=n1_;have HB:=n2_;clear n0_ n1_ n2_;(try clear hb);(try clear hb2);(try clear hk);(try clear hi)))
              go_roundg k2
              case measure=>have:=HK1.out;have:=HK2.out;omega
              case rel=>exact ⟨(wrap64 (x38_2 + 1)),(by first | rfl | (simp;done) | (simp [*];done)),H', ⟨by have:=HK1.out;have:=HK2.out;omega⟩,⟨by exact kZ_ BK145⟩,⟨by exact bZ_ HB⟩⟩
             ·replace c36:=Bool.eq_false_iff.mpr c36
              subst c36
              have H1 : (some 5) = some r:=by rw [if_neg (show ¬ (false = true) by decide)] at H;exact H
              clear H
              have H:=H1
              clear H1
              obtain rfl:=Option.some.inj H
              have p152 : 0 ≤ (x38_2 : Int):=oT_ (by first | (with_reducible assumption) | assumption)
              have q152 : x38_2 < (l0_3.length : Int):=oT_ (by first | (with_reducible assumption) | assumption)
              obtain ⟨ad152,A152_2,c152_2,e152,hx152_0,hx152_1,hx152_2,hl152_2,hi152_2⟩:=at_T69 HR0_3.out x38_2 p152 q152
              cases e152
              replace hx152_0:=(HB.out.cell (wL_ w _ hx152_0)).trans hx152_0
              replace hx152_1:=(HB.out.cell (wL_ w _ hx152_1)).trans hx152_1
              replace hx152_2:=(HB.out.cell (wL_ w _ hx152_2)).trans hx152_2
              have HR152_2:=aM_ hi152_2
              have HC152_2:=aM_ hl152_2
              clear hi152_2 hl152_2
              replace p152:=eq_true p152
              replace q152:=eq_true q152
              go_wp2_with (first | ((with_reducible refine gate_dst (N:=6) rfl ?_);refine box_event ?hg (N:=6) ?hd (cs:=#[.string (⟨#[]⟩ : ByteArray),.bool false,.slice none 0 0]) (t:=69) ?hr ?_;(case hd=>rfl);(case hg=>rfl);(case hr=>first | (go_simp;done) | (go_simp;rfl));intro gb153 hg w42 hbox hb;have n0_:=aM_ (blk_below (g:=gb145) (o:=.cells #[.string a0_0,.slice A0_1 l0_1.length c0_1,.slice A0_2 l0_2.length c0_2,.slice (some ad152) l0_3.length c0_3] 35 (0,0)) (by exact kZ_ BK145) hb);have n1_:=aM_ (bT_ (by exact bZ_ HB) hb);have n2_:=aM_ (hbox);have n3_:=aM_ ((by rw [hg];exact (bS_ (by exact bZ_ HB)) : w.heap.size ≤ gb153));have n4_:=aM_ ((by rw [hg];exact (bS_ (by exact bZ_ HB)) : w.heap.size ≤ gb153));have n5_:=aM_ ((by rw [hg];exact nN_ (blk_lt (g:=gb145) (o:=.cells #[.string a0_0,.slice A0_1 l0_1.length c0_1,.slice A0_2 l0_2.length c0_2,.slice (some ad152) l0_3.length c0_3] 35 (0,0)) (by exact kZ_ BK145)) : gb145 ≠ gb153));have n6_:=aM_ ((by rw [hg];exact Nat.ne_of_gt (blk_lt (g:=gb145) (o:=.cells #[.string a0_0,.slice A0_1 l0_1.length c0_1,.slice A0_2 l0_2.length c0_2,.slice (some ad152) l0_3.length c0_3] 35 (0,0)) (by exact kZ_ BK145)) : gb153 ≠ gb145));clear BK145;clear HB;have BK145:=n0_;have HB:=n1_;have BK153:=n2_;have GW153:=n3_;have GE153:=n4_;have NB145_153:=n5_;have NB153_145:=n6_;clear n0_ n1_ n2_ n3_ n4_ n5_ n6_;clear hb hbox hg;have hnb43:=NB153_145.out;have hnc43:=NB145_153.out;have hcz44_0 : w42.cell? ⟨gb153,0,none⟩ = some (.string (⟨#[]⟩ : ByteArray)):=(kC_ BK153.out 0).trans rfl;have hcz44_1 : w42.cell? ⟨gb153,1,none⟩ = some (.bool false):=(kC_ BK153.out 1).trans rfl;have hcz44_2 : w42.cell? ⟨gb153,2,none⟩ = some (.slice none 0 0):=(kC_ BK153.out 2).trans rfl;have hfz44_0:=kF_ BK153.out 0;have hfz44_1:=kF_ BK153.out 1;have hfz44_2:=kF_ BK153.out 2;have hcz45_0 : w42.cell? ⟨gb145,0,none⟩ = some (.string a0_0):=(kC_ BK145.out 0).trans rfl;have hcz45_1 : w42.cell? ⟨gb145,1,none⟩ = some (.slice A0_1 l0_1.length c0_1):=(kC_ BK145.out 1).trans rfl;have hcz45_2 : w42.cell? ⟨gb145,2,none⟩ = some (.slice A0_2 l0_2.length c0_2):=(kC_ BK145.out 2).trans rfl;have hcz45_3 : w42.cell? ⟨gb145,3,none⟩ = some (.slice (some ad152) l0_3.length c0_3):=(kC_ BK145.out 3).trans rfl;have hfz45_0:=kF_ BK145.out 0;have hfz45_1:=kF_ BK145.out 1;have hfz45_2:=kF_ BK145.out 2;have hfz45_3:=kF_ BK145.out 3) | ((with_reducible refine gate_callee (f:=57) rfl ?_);refine goesL_ (some 45) rfl rfl Tryd.func57 (by kernel_rfl) rfl #[.agg #[.string a0_0,.slice A0_1 l0_1.length c0_1,.slice A0_2 l0_2.length c0_2,.slice (some ad152) l0_3.length c0_3],.slice A152_2 ((rd_T69 l0_3 x38_2).f2).length c152_2] rfl (by (try simp only [mA_,mC_,mN_]);first | done | rfl | (simp only [lD_,lT_];rfl)) ?_;(with_reducible refine (impl_partsOk.calls k2 a0_0 _ _ l0_1 _ _ l0_2 _ _ l0_3 _ _ ((rd_T69 l0_3 x38_2).f2) false _ ?side1 ?side2 ?side3 ?side4 ?side5 ?side6 ?side7 ?side8 A35.out).mono ?_);(case side1=>exact Kd.C_below HR0_1.out (by exact bZ_ HB));(case side2=>exact HC0_1.out);(case side3=>exact Kd.C_below HR0_2.out (by exact bZ_ HB));(case side4=>exact HC0_2.out);(case side5=>exact Kd.C_below HR0_3.out (by exact bZ_ HB));(case side6=>exact HC0_3.out);(case side7=>exact Kd.C_below HR152_2.out (by exact bZ_ HB));(case side8=>exact HC152_2.out);rintro e w46 ⟨rfl,hb⟩;refine ⟨_,rfl,?_⟩;have n0_:=aM_ (blk_below (g:=gb145) (o:=.cells #[.string a0_0,.slice A0_1 l0_1.length c0_1,.slice A0_2 l0_2.length c0_2,.slice (some ad152) l0_3.length c0_3] 35 (0,0)) (by exact kW_ BK145) hb);have n1_:=aM_ (blk_below (g:=gb153) (o:=.cells #[.string ((rd_T69 l0_3 x38_2).f0),.bool ((rd_T69 l0_3 x38_2).f1),.slice A152_2 ((rd_T69 l0_3 x38_2).f2).length c152_2] 69 (0,0)) (by (with_reducible repeat (first | refine kN_ ?_ _ | refine kD_ ?_ | refine kA_ ?_ _));refine kP_ (cs:=#[.string ((rd_T69 l0_3 x38_2).f0),.bool ((rd_T69 l0_3 x38_2).f1),.slice none 0 0]) ?_ 2 _ rfl;(with_reducible repeat (first | refine kN_ ?_ _ | refine kD_ ?_ | refine kA_ ?_ _));refine kP_ (cs:=#[.string ((rd_T69 l0_3 x38_2).f0),.bool false,.slice none 0 0]) ?_ 1 _ rfl;(with_reducible repeat (first | refine kN_ ?_ _ | refine kD_ ?_ | refine kA_ ?_ _));refine kP_ (cs:=#[.string (⟨#[]⟩ : ByteArray),.bool false,.slice none 0 0]) ?_ 0 _ rfl;exact kZ_ BK153) hb);have n2_:=aM_ (bT_ (by exact bZ_ HB) hb);clear BK145;clear BK153;clear HB;have BK145:=n0_;have BK153:=n1_;have HB:=n2_;clear n0_ n1_ n2_;(try clear hb);(try clear hb2);(try clear hk);(try clear hi)))
              go_ret
              exact ⟨by first | rfl | (simp [errW_none,errW_some] <;> rfl) | (simp [*, errW_none,errW_some] <;> rfl),by exact bZ_ HB⟩
            ·rw [if_neg c34] at H
             exact absurd H (by simp)
           ·rw [if_neg c33] at H
            exact absurd H (by simp)
          ·rw [if_neg c32] at H
           have c32b0 : decide (x38_2 < (l0_3.length : Int)) = false:=decide_eq_false c32
           clear c32
           replace H:=oB_ H
           obtain ⟨t155,A470,H⟩:=H
           replace H : (if t155 = true then (impl_CheckDef.l2 k2 l0_2 (l0_2.length : Int) 0 a0_0 l0_1 l0_2 l0_3) else (some 5)) = some r:=H
           have A47:=aM_ A470
           clear A470
           by_cases c48 : t155 = true
           ·subst c48
            have H1 : (impl_CheckDef.l2 k2 l0_2 (l0_2.length : Int) 0 a0_0 l0_1 l0_2 l0_3) = some r:=by rw [if_pos rfl] at H;exact H
            clear H
            have H:=H1
            clear H1
            have H':=aM_ H
            clear H
            have hcz49_0 : wr.cell? ⟨gb145,0,none⟩ = some (.string a0_0):=(kC_ BK145.out 0).trans rfl
            have hcz49_1 : wr.cell? ⟨gb145,1,none⟩ = some (.slice A0_1 l0_1.length c0_1):=(kC_ BK145.out 1).trans rfl
            have hcz49_2 : wr.cell? ⟨gb145,2,none⟩ = some (.slice A0_2 l0_2.length c0_2):=(kC_ BK145.out 2).trans rfl
            have hcz49_3 : wr.cell? ⟨gb145,3,none⟩ = some (.slice A0_3 l0_3.length c0_3):=(kC_ BK145.out 3).trans rfl
            have hfz49_0:=kF_ BK145.out 0
            have hfz49_1:=kF_ BK145.out 1
            have hfz49_2:=kF_ BK145.out 2
            have hfz49_3:=kF_ BK145.out 3
            go_wp2_with (first | ((with_reducible refine gate_callee (f:=57) rfl ?_);refine goesL_ (some 51) rfl rfl Tryd.func57 (by kernel_rfl) rfl #[.agg #[.string a0_0,.slice A0_1 l0_1.length c0_1,.slice A0_2 l0_2.length c0_2,.slice A0_3 l0_3.length c0_3],.slice A0_2 l0_2.length c0_2] rfl (by (try simp only [mA_,mC_,mN_]);first | done | rfl | (simp only [lD_,lT_];rfl)) ?_;(with_reducible refine (impl_partsOk.calls k2 a0_0 _ _ l0_1 _ _ l0_2 _ _ l0_3 _ _ l0_2 true _ ?side1 ?side2 ?side3 ?side4 ?side5 ?side6 ?side7 ?side8 A47.out).mono ?_);(case side1=>repeat (first | exact (Kd.C_below HR0_1.out HB.out) | (with_reducible refine cA_ ?_ _) | (with_reducible refine cN_ ?_ _) | (with_reducible refine cD_ ?_)));(case side2=>exact HC0_1.out);(case side3=>repeat (first | exact (Kd.C_below HR0_2.out HB.out) | (with_reducible refine cA_ ?_ _) | (with_reducible refine cN_ ?_ _) | (with_reducible refine cD_ ?_)));(case side4=>exact HC0_2.out);(case side5=>repeat (first | exact (Kd.C_below HR0_3.out HB.out) | (with_reducible refine cA_ ?_ _) | (with_reducible refine cN_ ?_ _) | (with_reducible refine cD_ ?_)));(case side6=>exact HC0_3.out);(case side7=>repeat (first | exact (Kd.C_below HR0_2.out HB.out) | (with_reducible refine cA_ ?_ _) | (with_reducible refine cN_ ?_ _) | (with_reducible refine cD_ ?_)));(case side8=>exact HC0_2.out);rintro e w50 ⟨rfl,hb⟩;refine ⟨_,rfl,?_⟩;have n0_:=aM_ (blk_below (g:=gb145) (o:=.cells #[.string a0_0,.slice A0_1 l0_1.length c0_1,.slice A0_2 l0_2.length c0_2,.slice A0_3 l0_3.length c0_3] 35 (0,0)) (by exact kZ_ BK145) hb);have n1_:=aM_ (bT_ (by exact bZ_ HB) hb);clear BK145;clear HB;have BK145:=n0_;have HB:=n1_;clear n0_ n1_;(try clear hb);(try clear hb2);(try clear hk);(try clear hi);have hcz51_0 : w50.cell? ⟨gb145,0,none⟩ = some (.string a0_0):=(kC_ BK145.out 0).trans rfl;have hcz51_1 : w50.cell? ⟨gb145,1,none⟩ = some (.slice A0_1 l0_1.length c0_1):=(kC_ BK145.out 1).trans rfl;have hcz51_2 : w50.cell? ⟨gb145,2,none⟩ = some (.slice A0_2 l0_2.length c0_2):=(kC_ BK145.out 2).trans rfl;have hcz51_3 : w50.cell? ⟨gb145,3,none⟩ = some (.slice A0_3 l0_3.length c0_3):=(kC_ BK145.out 3).trans rfl;have hfz51_0:=kF_ BK145.out 0;have hfz51_1:=kF_ BK145.out 1;have hfz51_2:=kF_ BK145.out 2;have hfz51_3:=kF_ BK145.out 3))
            (try simp only [Act.put,sI_,sS_,sZ_])
            go_loopg [56] k2 (fun kq v56 w'=>∃ (x56_3 : Int),v56 = .int .i64 x56_3 ∧ Aside0 (impl_CheckDef.l2 kq l0_2 (l0_2.length : Int) x56_3 a0_0 l0_1 l0_2 l0_3 = some r) ∧ Aside0 (kq ≤ k2) ∧ Aside0 (w'.heap[gb145]? = some (.cells #[.string a0_0,(.slice A0_1 l0_1.length c0_1),(.slice A0_2 l0_2.length c0_2),(.slice A0_3 l0_3.length c0_3)] 35 (0,0))) ∧ Aside0 (Below w.heap.size w w'))
            case atStart=>exact ⟨(0),(by first | rfl | (simp;done) | (simp [*];done)),H', ⟨Nat.le_refl _⟩,⟨by exact kZ_ BK145⟩,⟨by exact bZ_ HB⟩⟩
            case round =>
             clear H'
             try clear c1
             try clear p1
             try clear q1
             try clear hx1
             try clear c2
             try clear p2
             try clear c3
             try clear c4
             try clear c5
             try clear p6
             try clear c10
             try clear c10b0
             try clear c11
             try clear c11b0
             try clear c12
             try clear c12b0
             try clear c14
             try clear p14
             try clear q14
             try clear hx14
             try clear c15
             try clear p15
             try clear q15
             try clear hx15
             try clear c16
             try clear c19
             try clear c21
             try clear c22
             try clear c25
             try clear c25b0
             try clear c25b1
             try clear c32
             try clear c32b0
             try clear c33
             try clear c33b0
             try clear c34
             try clear c34b0
             try clear c36
             try clear c38
             try clear c43
             try clear c48
             try clear hcz17_0
             try clear hcz17_1
             try clear hcz17_2
             try clear hcz20_0
             try clear hcz20_1
             try clear hcz20_2
             try clear hcz23_0
             try clear hcz23_1
             try clear hcz23_2
             try clear hcz23_3
             try clear hcz26_0
             try clear hcz26_1
             try clear hcz26_2
             try clear hcz26_3
             try clear hcz28_0
             try clear hcz28_1
             try clear hcz28_2
             try clear hcz28_3
             try clear hcz29_0
             try clear hcz29_1
             try clear hcz29_2
             try clear hcz29_3
             try clear hcz31_0
             try clear hcz31_1
             try clear hcz31_2
             try clear hcz31_3
             try clear hcz39_0
             try clear hcz39_1
             try clear hcz39_2
             try clear hcz40_0
             try clear hcz40_1
             try clear hcz40_2
             try clear hcz40_3
             try clear hcz44_0
             try clear hcz44_1
             try clear hcz44_2
             try clear hcz45_0
             try clear hcz45_1
             try clear hcz45_2
             try clear hcz45_3
             try clear hcz49_0
             try clear hcz49_1
             try clear hcz49_2
             try clear hcz49_3
             try clear hcz51_0
             try clear hcz51_1
             try clear hcz51_2
             try clear hcz51_3
             try clear hcz7_0
             try clear hcz7_1
             try clear hcz7_2
             try clear hcz7_3
             try clear hcz9_0
             try clear hcz9_1
             try clear hcz9_2
             try clear hcz9_3
             try clear hfz17_0
             try clear hfz17_1
             try clear hfz17_2
             try clear hfz20_0
             try clear hfz20_1
             try clear hfz20_2
             try clear hfz23_0
             try clear hfz23_1
             try clear hfz23_2
             try clear hfz23_3
             try clear hfz26_0
             try clear hfz26_1
             try clear hfz26_2
             try clear hfz26_3
             try clear hfz28_0
             try clear hfz28_1
             try clear hfz28_2
             try clear hfz28_3
             try clear hfz29_0
             try clear hfz29_1
             try clear hfz29_2
             try clear hfz29_3
             try clear hfz31_0
             try clear hfz31_1
             try clear hfz31_2
             try clear hfz31_3
             try clear hfz39_0
             try clear hfz39_1
             try clear hfz39_2
             try clear hfz40_0
             try clear hfz40_1
             try clear hfz40_2
             try clear hfz40_3
             try clear hfz44_0
             try clear hfz44_1
             try clear hfz44_2
             try clear hfz45_0
             try clear hfz45_1
             try clear hfz45_2
             try clear hfz45_3
             try clear hfz49_0
             try clear hfz49_1
             try clear hfz49_2
             try clear hfz49_3
             try clear hfz51_0
             try clear hfz51_1
             try clear hfz51_2
             try clear hfz51_3
             try clear hfz7_0
             try clear hfz7_1
             try clear hfz7_2
             try clear hfz7_3
             try clear hfz9_0
             try clear hfz9_1
             try clear hfz9_2
             try clear hfz9_3
             try clear hx148_0
             try clear hx148_1
             try clear hx148_2
             try clear hx152_0
             try clear hx152_1
             try clear hx152_2
             try clear p1
             try clear p14
             try clear p148
             try clear p152
             try clear p2
             try clear p6
             try clear q1
             try clear q14
             try clear q148
             try clear q152
             obtain ⟨x56_3,rfl,HA,HK3,BK145,HB⟩:=hrel
             cases gk with
             | zero=>exact absurd HA.out (by simp [impl_CheckDef.l2])
             | succ k3 =>
              have H:=HA.out
              clear HA
              simp only [impl_CheckDef.l2] at H
              by_cases c52 : x56_3 < (l0_2.length : Int)
              ·rw [if_pos c52] at H
               have c52b0 : decide (x56_3 < (l0_2.length : Int)) = true:=decide_eq_true c52
               clear c52
               by_cases c53 : 0 ≤ x56_3
               ·rw [if_pos c53] at H
                have c53b0 : decide (0 ≤ x56_3) = true:=decide_eq_true c53
                clear c53
                by_cases c54 : x56_3 < (l0_2.length : Int)
                ·rw [if_pos c54] at H
                 have c54b0 : decide (x56_3 < (l0_2.length : Int)) = true:=decide_eq_true c54
                 clear c54
                 by_cases c55 : 0 ≤ ((rd_T85 l0_2 x56_3).f0)
                 ·rw [if_pos c55] at H
                  have c55b0 : decide (0 ≤ ((rd_T85 l0_2 x56_3).f0)) = true:=decide_eq_true c55
                  clear c55
                  by_cases c56 : ((rd_T85 l0_2 x56_3).f0) < (l0_1.length : Int)
                  ·rw [if_pos c56] at H
                   have c56b0 : decide (((rd_T85 l0_2 x56_3).f0) < (l0_1.length : Int)) = true:=decide_eq_true c56
                   clear c56
                   obtain ⟨bq57,hbq57⟩ : ∃ b_ : Bool,b_ = ((rd_T82 l0_1 ((rd_T85 l0_2 x56_3).f0)).f2):=⟨_,rfl⟩
                   replace H : (if bq57 = true then (some 4) else (impl_CheckDef.l2 k3 l0_2 (l0_2.length : Int) (wrap64 (x56_3 + 1)) a0_0 l0_1 l0_2 l0_3)) = some r:=by rw [← hbq57] at H;exact H
                   have Nbq57:=aM_ hbq57
                   clear hbq57
                   by_cases c58 : bq57 = true
                   ·subst c58
                    have H1 : (some 4) = some r:=by rw [if_pos rfl] at H;exact H
                    clear H
                    have H:=H1
                    clear H1
                    obtain rfl:=Option.some.inj H
                    have p156 : 0 ≤ (x56_3 : Int):=oT_ (by first | (with_reducible assumption) | assumption)
                    have q156 : x56_3 < (l0_2.length : Int):=oT_ (by first | (with_reducible assumption) | assumption)
                    obtain ⟨ad156,e156,hx156_0,hx156_1⟩:=at_T85 HR0_2.out x56_3 p156 q156
                    (try rw [← Nbq57.out] at hx156_1)
                    cases e156
                    replace hx156_0:=(HB.out.cell (wL_ w _ hx156_0)).trans hx156_0
                    replace hx156_1:=(HB.out.cell (wL_ w _ hx156_1)).trans hx156_1
                    replace p156:=eq_true p156
                    replace q156:=eq_true q156
                    go_wp2_with (first | ((with_reducible refine gate_dst (N:=8) rfl ?_);refine box_event ?hg (N:=8) ?hd (cs:=#[.int .i64 0,.bool false]) (t:=85) ?hr ?_;(case hd=>rfl);(case hg=>rfl);(case hr=>first | (go_simp;done) | (go_simp;rfl));intro gb157 hg w59 hbox hb;have n0_:=aM_ (blk_below (g:=gb145) (o:=.cells #[.string a0_0,.slice A0_1 l0_1.length c0_1,.slice (some ad156) l0_2.length c0_2,.slice A0_3 l0_3.length c0_3] 35 (0,0)) (by exact kZ_ BK145) hb);have n1_:=aM_ (bT_ (by exact bZ_ HB) hb);have n2_:=aM_ (hbox);have n3_:=aM_ ((by rw [hg];exact (bS_ (by exact bZ_ HB)) : w.heap.size ≤ gb157));have n4_:=aM_ ((by rw [hg];exact (bS_ (by exact bZ_ HB)) : w.heap.size ≤ gb157));have n5_:=aM_ ((by rw [hg];exact nN_ (blk_lt (g:=gb145) (o:=.cells #[.string a0_0,.slice A0_1 l0_1.length c0_1,.slice (some ad156) l0_2.length c0_2,.slice A0_3 l0_3.length c0_3] 35 (0,0)) (by exact kZ_ BK145)) : gb145 ≠ gb157));have n6_:=aM_ ((by rw [hg];exact Nat.ne_of_gt (blk_lt (g:=gb145) (o:=.cells #[.string a0_0,.slice A0_1 l0_1.length c0_1,.slice (some ad156) l0_2.length c0_2,.slice A0_3 l0_3.length c0_3] 35 (0,0)) (by exact kZ_ BK145)) : gb157 ≠ gb145));clear BK145;clear HB;have BK145:=n0_;have HB:=n1_;have BK157:=n2_;have GW157:=n3_;have GE157:=n4_;have NB145_157:=n5_;have NB157_145:=n6_;clear n0_ n1_ n2_ n3_ n4_ n5_ n6_;clear hb hbox hg;have hnb60:=NB157_145.out;have hnc60:=NB145_157.out;have hcz61_0 : w59.cell? ⟨gb157,0,none⟩ = some (.int .i64 0):=(kC_ BK157.out 0).trans rfl;have hcz61_1 : w59.cell? ⟨gb157,1,none⟩ = some (.bool false):=(kC_ BK157.out 1).trans rfl;have hfz61_0:=kF_ BK157.out 0;have hfz61_1:=kF_ BK157.out 1;have hcz62_0 : w59.cell? ⟨gb145,0,none⟩ = some (.string a0_0):=(kC_ BK145.out 0).trans rfl;have hcz62_1 : w59.cell? ⟨gb145,1,none⟩ = some (.slice A0_1 l0_1.length c0_1):=(kC_ BK145.out 1).trans rfl;have hcz62_2 : w59.cell? ⟨gb145,2,none⟩ = some (.slice (some ad156) l0_2.length c0_2):=(kC_ BK145.out 2).trans rfl;have hcz62_3 : w59.cell? ⟨gb145,3,none⟩ = some (.slice A0_3 l0_3.length c0_3):=(kC_ BK145.out 3).trans rfl;have hfz62_0:=kF_ BK145.out 0;have hfz62_1:=kF_ BK145.out 1;have hfz62_2:=kF_ BK145.out 2;have hfz62_3:=kF_ BK145.out 3;have p158 : 0 ≤ (((rd_T85 l0_2 x56_3).f0) : Int):=oT_ (by first | (with_reducible assumption) | assumption);have q158 : ((rd_T85 l0_2 x56_3).f0) < (l0_1.length : Int):=oT_ (by first | (with_reducible assumption) | assumption);obtain ⟨ad158,e158,hx158_0,hx158_1,hx158_2⟩:=at_T82 HR0_1.out ((rd_T85 l0_2 x56_3).f0) p158 q158;(try rw [← Nbq57.out] at hx158_2);cases e158;have hn158_0 : ad158.block ≠ gb157:=nN_ (nL_ (by have:=wL_ _ _ hx158_0;first | rwa [add_block] at this | exact this) GW157.out);have hn158_1 : ad158.block ≠ gb157:=nN_ (nL_ (by have:=wL_ _ _ hx158_0;first | rwa [add_block] at this | exact this) GW157.out);replace hx158_0:=(HB.out.cell (wL_ w _ hx158_0)).trans hx158_0;replace hx158_1:=(HB.out.cell (wL_ w _ hx158_1)).trans hx158_1;replace hx158_2:=(HB.out.cell (wL_ w _ hx158_2)).trans hx158_2;replace hx158_0:=(cell_far (p:=⟨gb157,0,none⟩) (by first | (rw [add_block];exact hn158_0) | (show (Addr.add _ _).block ≠ _;rw [add_block];exact hn158_0) | exact hn158_0) (.int .i64 ((rd_T85 l0_2 x56_3).f0))).trans hx158_0;replace hx158_1:=(cell_far (p:=⟨gb157,0,none⟩) (by first | (rw [add_block];exact hn158_0) | (show (Addr.add _ _).block ≠ _;rw [add_block];exact hn158_0) | exact hn158_0) (.int .i64 ((rd_T85 l0_2 x56_3).f0))).trans hx158_1;replace hx158_2:=(cell_far (p:=⟨gb157,0,none⟩) (by first | (rw [add_block];exact hn158_0) | (show (Addr.add _ _).block ≠ _;rw [add_block];exact hn158_0) | exact hn158_0) (.int .i64 ((rd_T85 l0_2 x56_3).f0))).trans hx158_2;replace hx158_0:=(cell_far (p:=⟨gb157,1,none⟩) (by first | (rw [add_block];exact hn158_1) | (show (Addr.add _ _).block ≠ _;rw [add_block];exact hn158_1) | exact hn158_1) (.bool ((rd_T85 l0_2 x56_3).f1))).trans hx158_0;replace hx158_1:=(cell_far (p:=⟨gb157,1,none⟩) (by first | (rw [add_block];exact hn158_1) | (show (Addr.add _ _).block ≠ _;rw [add_block];exact hn158_1) | exact hn158_1) (.bool ((rd_T85 l0_2 x56_3).f1))).trans hx158_1;replace hx158_2:=(cell_far (p:=⟨gb157,1,none⟩) (by first | (rw [add_block];exact hn158_1) | (show (Addr.add _ _).block ≠ _;rw [add_block];exact hn158_1) | exact hn158_1) (.bool ((rd_T85 l0_2 x56_3).f1))).trans hx158_2;clear hn158_0;clear hn158_1;replace p158:=eq_true p158;replace q158:=eq_true q158))
                    go_ret
                    exact ⟨by first | rfl | (simp [errW_none,errW_some] <;> rfl) | (simp [*, errW_none,errW_some] <;> rfl),by exact bZ_ HB⟩
                   ·replace c58:=Bool.eq_false_iff.mpr c58
                    subst c58
                    have H1 : (impl_CheckDef.l2 k3 l0_2 (l0_2.length : Int) (wrap64 (x56_3 + 1)) a0_0 l0_1 l0_2 l0_3) = some r:=by rw [if_neg (show ¬ (false = true) by decide)] at H;exact H
                    clear H
                    have H:=H1
                    clear H1
                    have H':=aM_ H
                    clear H
                    have p156 : 0 ≤ (x56_3 : Int):=oT_ (by first | (with_reducible assumption) | assumption)
                    have q156 : x56_3 < (l0_2.length : Int):=oT_ (by first | (with_reducible assumption) | assumption)
                    obtain ⟨ad156,e156,hx156_0,hx156_1⟩:=at_T85 HR0_2.out x56_3 p156 q156
                    (try rw [← Nbq57.out] at hx156_1)
                    cases e156
                    replace hx156_0:=(HB.out.cell (wL_ w _ hx156_0)).trans hx156_0
                    replace hx156_1:=(HB.out.cell (wL_ w _ hx156_1)).trans hx156_1
                    replace p156:=eq_true p156
                    replace q156:=eq_true q156
                    go_wp2_with (first | ((with_reducible refine gate_dst (N:=8) rfl ?_);refine box_event ?hg (N:=8) ?hd (cs:=#[.int .i64 0,.bool false]) (t:=85) ?hr ?_;(case hd=>rfl);(case hg=>rfl);(case hr=>first | (go_simp;done) | (go_simp;rfl));intro gb157 hg w63 hbox hb;have n0_:=aM_ (blk_below (g:=gb145) (o:=.cells #[.string a0_0,.slice A0_1 l0_1.length c0_1,.slice (some ad156) l0_2.length c0_2,.slice A0_3 l0_3.length c0_3] 35 (0,0)) (by exact kZ_ BK145) hb);have n1_:=aM_ (bT_ (by exact bZ_ HB) hb);have n2_:=aM_ (hbox);have n3_:=aM_ ((by rw [hg];exact (bS_ (by exact bZ_ HB)) : w.heap.size ≤ gb157));have n4_:=aM_ ((by rw [hg];exact (bS_ (by exact bZ_ HB)) : w.heap.size ≤ gb157));have n5_:=aM_ ((by rw [hg];exact nN_ (blk_lt (g:=gb145) (o:=.cells #[.string a0_0,.slice A0_1 l0_1.length c0_1,.slice (some ad156) l0_2.length c0_2,.slice A0_3 l0_3.length c0_3] 35 (0,0)) (by exact kZ_ BK145)) : gb145 ≠ gb157));have n6_:=aM_ ((by rw [hg];exact Nat.ne_of_gt (blk_lt (g:=gb145) (o:=.cells #[.string a0_0,.slice A0_1 l0_1.length c0_1,.slice (some ad156) l0_2.length c0_2,.slice A0_3 l0_3.length c0_3] 35 (0,0)) (by exact kZ_ BK145)) : gb157 ≠ gb145));clear BK145;clear HB;have BK145:=n0_;have HB:=n1_;have BK157:=n2_;have GW157:=n3_;have GE157:=n4_;have NB145_157:=n5_;have NB157_145:=n6_;clear n0_ n1_ n2_ n3_ n4_ n5_ n6_;clear hb hbox hg;have hnb64:=NB157_145.out;have hnc64:=NB145_157.out;have hcz65_0 : w63.cell? ⟨gb157,0,none⟩ = some (.int .i64 0):=(kC_ BK157.out 0).trans rfl;have hcz65_1 : w63.cell? ⟨gb157,1,none⟩ = some (.bool false):=(kC_ BK157.out 1).trans rfl;have hfz65_0:=kF_ BK157.out 0;have hfz65_1:=kF_ BK157.out 1;have hcz66_0 : w63.cell? ⟨gb145,0,none⟩ = some (.string a0_0):=(kC_ BK145.out 0).trans rfl;have hcz66_1 : w63.cell? ⟨gb145,1,none⟩ = some (.slice A0_1 l0_1.length c0_1):=(kC_ BK145.out 1).trans rfl;have hcz66_2 : w63.cell? ⟨gb145,2,none⟩ = some (.slice (some ad156) l0_2.length c0_2):=(kC_ BK145.out 2).trans rfl;have hcz66_3 : w63.cell? ⟨gb145,3,none⟩ = some (.slice A0_3 l0_3.length c0_3):=(kC_ BK145.out 3).trans rfl;have hfz66_0:=kF_ BK145.out 0;have hfz66_1:=kF_ BK145.out 1;have hfz66_2:=kF_ BK145.out 2;have hfz66_3:=kF_ BK145.out 3;have p158 : 0 ≤ (((rd_T85 l0_2 x56_3).f0) : Int):=oT_ (by first | (with_reducible assumption) | assumption);have q158 : ((rd_T85 l0_2 x56_3).f0) < (l0_1.length : Int):=oT_ (by first | (with_reducible assumption) | assumption);obtain ⟨ad158,e158,hx158_0,hx158_1,hx158_2⟩:=at_T82 HR0_1.out ((rd_T85 l0_2 x56_3).f0) p158 q158;(try rw [← Nbq57.out] at hx158_2);cases e158;have hn158_0 : ad158.block ≠ gb157:=nN_ (nL_ (by have:=wL_ _ _ hx158_0;first | rwa [add_block] at this | exact this) GW157.out);have hn158_1 : ad158.block ≠ gb157:=nN_ (nL_ (by have:=wL_ _ _ hx158_0;first | rwa [add_block] at this | exact this) GW157.out);replace hx158_0:=(HB.out.cell (wL_ w _ hx158_0)).trans hx158_0;replace hx158_1:=(HB.out.cell (wL_ w _ hx158_1)).trans hx158_1;replace hx158_2:=(HB.out.cell (wL_ w _ hx158_2)).trans hx158_2;replace hx158_0:=(cell_far (p:=⟨gb157,0,none⟩) (by first | (rw [add_block];exact hn158_0) | (show (Addr.add _ _).block ≠ _;rw [add_block];exact hn158_0) | exact hn158_0) (.int .i64 ((rd_T85 l0_2 x56_3).f0))).trans hx158_0;replace hx158_1:=(cell_far (p:=⟨gb157,0,none⟩) (by first | (rw [add_block];exact hn158_0) | (show (Addr.add _ _).block ≠ _;rw [add_block];exact hn158_0) | exact hn158_0) (.int .i64 ((rd_T85 l0_2 x56_3).f0))).trans hx158_1;replace hx158_2:=(cell_far (p:=⟨gb157,0,none⟩) (by first | (rw [add_block];exact hn158_0) | (show (Addr.add _ _).block ≠ _;rw [add_block];exact hn158_0) | exact hn158_0) (.int .i64 ((rd_T85 l0_2 x56_3).f0))).trans hx158_2;replace hx158_0:=(cell_far (p:=⟨gb157,1,none⟩) (by first | (rw [add_block];exact hn158_1) | (show (Addr.add _ _).block ≠ _;rw [add_block];exact hn158_1) | exact hn158_1) (.bool ((rd_T85 l0_2 x56_3).f1))).trans hx158_0;replace hx158_1:=(cell_far (p:=⟨gb157,1,none⟩) (by first | (rw [add_block];exact hn158_1) | (show (Addr.add _ _).block ≠ _;rw [add_block];exact hn158_1) | exact hn158_1) (.bool ((rd_T85 l0_2 x56_3).f1))).trans hx158_1;replace hx158_2:=(cell_far (p:=⟨gb157,1,none⟩) (by first | (rw [add_block];exact hn158_1) | (show (Addr.add _ _).block ≠ _;rw [add_block];exact hn158_1) | exact hn158_1) (.bool ((rd_T85 l0_2 x56_3).f1))).trans hx158_2;clear hn158_0;clear hn158_1;replace p158:=eq_true p158;replace q158:=eq_true q158))
                    go_roundg k3
                    case measure=>have:=HK1.out;have:=HK2.out;have:=HK3.out;omega
                    case rel=>exact ⟨(wrap64 (x56_3 + 1)),(by first | rfl | (simp;done) | (simp [*];done)),H', ⟨by have:=HK1.out;have:=HK2.out;have:=HK3.out;omega⟩,⟨by exact kW_ BK145⟩,⟨by exact bZ_ HB⟩⟩
                  ·rw [if_neg c56] at H
                   exact absurd H (by simp)
                 ·rw [if_neg c55] at H
                  exact absurd H (by simp)
                ·rw [if_neg c54] at H
                 exact absurd H (by simp)
               ·rw [if_neg c53] at H
                exact absurd H (by simp)
              ·rw [if_neg c52] at H
               have c52b0 : decide (x56_3 < (l0_2.length : Int)) = false:=decide_eq_false c52
               clear c52
               obtain rfl:=Option.some.inj H
               go_wp2
               go_ret
               exact ⟨by first | rfl | (simp [errW_none,errW_some] <;> rfl) | (simp [*, errW_none,errW_some] <;> rfl),by exact bZ_ HB⟩
           ·replace c48:=Bool.eq_false_iff.mpr c48
            subst c48
            have H1 : (some 5) = some r:=by rw [if_neg (show ¬ (false = true) by decide)] at H;exact H
            clear H
            have H:=H1
            clear H1
            obtain rfl:=Option.some.inj H
            have hcz67_0 : wr.cell? ⟨gb145,0,none⟩ = some (.string a0_0):=(kC_ BK145.out 0).trans rfl
            have hcz67_1 : wr.cell? ⟨gb145,1,none⟩ = some (.slice A0_1 l0_1.length c0_1):=(kC_ BK145.out 1).trans rfl
            have hcz67_2 : wr.cell? ⟨gb145,2,none⟩ = some (.slice A0_2 l0_2.length c0_2):=(kC_ BK145.out 2).trans rfl
            have hcz67_3 : wr.cell? ⟨gb145,3,none⟩ = some (.slice A0_3 l0_3.length c0_3):=(kC_ BK145.out 3).trans rfl
            have hfz67_0:=kF_ BK145.out 0
            have hfz67_1:=kF_ BK145.out 1
            have hfz67_2:=kF_ BK145.out 2
            have hfz67_3:=kF_ BK145.out 3
            go_wp2_with (first | ((with_reducible refine gate_callee (f:=57) rfl ?_);refine goesL_ (some 51) rfl rfl Tryd.func57 (by kernel_rfl) rfl #[.agg #[.string a0_0,.slice A0_1 l0_1.length c0_1,.slice A0_2 l0_2.length c0_2,.slice A0_3 l0_3.length c0_3],.slice A0_2 l0_2.length c0_2] rfl (by (try simp only [mA_,mC_,mN_]);first | done | rfl | (simp only [lD_,lT_];rfl)) ?_;(with_reducible refine (impl_partsOk.calls k2 a0_0 _ _ l0_1 _ _ l0_2 _ _ l0_3 _ _ l0_2 false _ ?side1 ?side2 ?side3 ?side4 ?side5 ?side6 ?side7 ?side8 A47.out).mono ?_);(case side1=>repeat (first | exact (Kd.C_below HR0_1.out HB.out) | (with_reducible refine cA_ ?_ _) | (with_reducible refine cN_ ?_ _) | (with_reducible refine cD_ ?_)));(case side2=>exact HC0_1.out);(case side3=>repeat (first | exact (Kd.C_below HR0_2.out HB.out) | (with_reducible refine cA_ ?_ _) | (with_reducible refine cN_ ?_ _) | (with_reducible refine cD_ ?_)));(case side4=>exact HC0_2.out);(case side5=>repeat (first | exact (Kd.C_below HR0_3.out HB.out) | (with_reducible refine cA_ ?_ _) | (with_reducible refine cN_ ?_ _) | (with_reducible refine cD_ ?_)));(case side6=>exact HC0_3.out);(case side7=>repeat (first | exact (Kd.C_below HR0_2.out HB.out) | (with_reducible refine cA_ ?_ _) | (with_reducible refine cN_ ?_ _) | (with_reducible refine cD_ ?_)));(case side8=>exact HC0_2.out);rintro e w68 ⟨rfl,hb⟩;refine ⟨_,rfl,?_⟩;have n0_:=aM_ (blk_below (g:=gb145) (o:=.cells #[.string a0_0,.slice A0_1 l0_1.length c0_1,.slice A0_2 l0_2.length c0_2,.slice A0_3 l0_3.length c0_3] 35 (0,0)) (by exact kZ_ BK145) hb);have n1_:=aM_ (bT_ (by exact bZ_ HB) hb);clear BK145;clear HB;have BK145:=n0_;have HB:=n1_;clear n0_ n1_;(try clear hb);(try clear hb2);(try clear hk);(try clear hi)))
            go_ret
            exact ⟨by first | rfl | (simp [errW_none,errW_some] <;> rfl) | (simp [*, errW_none,errW_some] <;> rfl),by exact bZ_ HB⟩
  ·replace c5:=Bool.eq_false_iff.mpr c5
   subst c5
   have H1 : (some 2) = some r:=by rw [if_neg (show ¬ (false = true) by decide)] at H;exact H
   clear H
   have H:=H1
   clear H1
   obtain rfl:=Option.some.inj H
   go_enter Tryd.func21,Tryd.ntmps21
   go_wp2_with (first | ((with_reducible refine gate_dst (N:=1) rfl ?_);refine box_event ?hg (N:=1) ?hd (cs:=#[.string a0_0,.slice A0_1 l0_1.length c0_1,.slice A0_2 l0_2.length c0_2,.slice A0_3 l0_3.length c0_3]) (t:=35) ?hr ?_;(case hd=>rfl);(case hg=>rfl);(case hr=>first | (go_simp;done) | (go_simp;rfl));intro gb145 hg w69 hbox hb;have n0_:=aM_ (bT_ (by exact bZ_ HB) hb);have n1_:=aM_ (hbox);have n2_:=aM_ ((by rw [hg];exact (bS_ (by exact bZ_ HB)) : w.heap.size ≤ gb145));have n3_:=aM_ ((by rw [hg];exact (bS_ (by exact bZ_ HB)) : w.heap.size ≤ gb145));clear HB;have HB:=n0_;have BK145:=n1_;have GW145:=n2_;have GE145:=n3_;clear n0_ n1_ n2_ n3_;clear hb hbox hg;have hcz70_0 : w69.cell? ⟨gb145,0,none⟩ = some (.string a0_0):=(kC_ BK145.out 0).trans rfl;have hcz70_1 : w69.cell? ⟨gb145,1,none⟩ = some (.slice A0_1 l0_1.length c0_1):=(kC_ BK145.out 1).trans rfl;have hcz70_2 : w69.cell? ⟨gb145,2,none⟩ = some (.slice A0_2 l0_2.length c0_2):=(kC_ BK145.out 2).trans rfl;have hcz70_3 : w69.cell? ⟨gb145,3,none⟩ = some (.slice A0_3 l0_3.length c0_3):=(kC_ BK145.out 3).trans rfl;have hfz70_0:=kF_ BK145.out 0;have hfz70_1:=kF_ BK145.out 1;have hfz70_2:=kF_ BK145.out 2;have hfz70_3:=kF_ BK145.out 3) | ((with_reducible refine gate_callee (f:=54) rfl ?_);refine goesL_ (some 10) rfl rfl Tryd.func54 (by kernel_rfl) rfl #[.agg #[.string a0_0,.slice A0_1 l0_1.length c0_1,.slice A0_2 l0_2.length c0_2,.slice A0_3 l0_3.length c0_3]] rfl (by (try simp only [mA_,mC_,mN_]);first | done | rfl | (simp only [lD_,lT_];rfl)) ?_;(with_reducible refine (impl_namesOk.calls k a0_0 _ _ l0_1 _ _ l0_2 _ _ l0_3 true _ ?side1 ?side2 ?side3 ?side4 ?side5 ?side6 A2.out).mono ?_);(case side1=>repeat (first | exact (Kd.C_below HR0_1.out HB.out) | (with_reducible refine cA_ ?_ _) | (with_reducible refine cN_ ?_ _) | (with_reducible refine cD_ ?_)));(case side2=>exact HC0_1.out);(case side3=>repeat (first | exact (Kd.C_below HR0_2.out HB.out) | (with_reducible refine cA_ ?_ _) | (with_reducible refine cN_ ?_ _) | (with_reducible refine cD_ ?_)));(case side4=>exact HC0_2.out);(case side5=>repeat (first | exact (Kd.C_below HR0_3.out HB.out) | (with_reducible refine cA_ ?_ _) | (with_reducible refine cN_ ?_ _) | (with_reducible refine cD_ ?_)));(case side6=>exact HC0_3.out);rintro e w71 ⟨rfl,hb⟩;refine ⟨_,rfl,?_⟩;have n0_:=aM_ (blk_below (g:=gb145) (o:=.cells #[.string a0_0,.slice A0_1 l0_1.length c0_1,.slice A0_2 l0_2.length c0_2,.slice A0_3 l0_3.length c0_3] 35 (0,0)) (by exact kZ_ BK145) hb);have n1_:=aM_ (bT_ (by exact bZ_ HB) hb);clear BK145;clear HB;have BK145:=n0_;have HB:=n1_;clear n0_ n1_;(try clear hb);(try clear hb2);(try clear hk);(try clear hi);have hcz72_0 : w71.cell? ⟨gb145,0,none⟩ = some (.string a0_0):=(kC_ BK145.out 0).trans rfl;have hcz72_1 : w71.cell? ⟨gb145,1,none⟩ = some (.slice A0_1 l0_1.length c0_1):=(kC_ BK145.out 1).trans rfl;have hcz72_2 : w71.cell? ⟨gb145,2,none⟩ = some (.slice A0_2 l0_2.length c0_2):=(kC_ BK145.out 2).trans rfl;have hcz72_3 : w71.cell? ⟨gb145,3,none⟩ = some (.slice A0_3 l0_3.length c0_3):=(kC_ BK145.out 3).trans rfl;have hfz72_0:=kF_ BK145.out 0;have hfz72_1:=kF_ BK145.out 1;have hfz72_2:=kF_ BK145.out 2;have hfz72_3:=kF_ BK145.out 3) | ((with_reducible refine gate_callee (f:=55) rfl ?_);refine goesL_ (some 15) rfl rfl Tryd.func55 (by kernel_rfl) rfl #[.int .i64 (l0_1.length : Int),.int .i64 1,.int .i64 6] rfl (by (try simp only [mA_,mC_,mN_]);first | done | rfl | (simp only [lD_,lT_];rfl)) ?_;(with_reducible refine (impl_in.calls (l0_1.length : Int) 1 6 false _ A4.out).mono ?_);rintro e w' ⟨rfl,⟨nd,rfl⟩⟩;refine ⟨_,rfl,?_⟩))
   go_ret
   exact ⟨by first | rfl | (simp [errW_none,errW_some] <;> rfl) | (simp [*, errW_none,errW_some] <;> rfl),by exact bZ_ HB⟩
 ·replace c3:=Bool.eq_false_iff.mpr c3
  subst c3
  have H1 : (some 1) = some r:=by rw [if_neg (show ¬ (false = true) by decide)] at H;exact H
  clear H
  have H:=H1
  clear H1
  obtain rfl:=Option.some.inj H
  go_enter Tryd.func21,Tryd.ntmps21
  go_wp2_with (first | ((with_reducible refine gate_dst (N:=1) rfl ?_);refine box_event ?hg (N:=1) ?hd (cs:=#[.string a0_0,.slice A0_1 l0_1.length c0_1,.slice A0_2 l0_2.length c0_2,.slice A0_3 l0_3.length c0_3]) (t:=35) ?hr ?_;(case hd=>rfl);(case hg=>rfl);(case hr=>first | (go_simp;done) | (go_simp;rfl));intro gb145 hg w73 hbox hb;have n0_:=aM_ (bT_ (by exact bZ_ HB) hb);have n1_:=aM_ (hbox);have n2_:=aM_ ((by rw [hg];exact (bS_ (by exact bZ_ HB)) : w.heap.size ≤ gb145));have n3_:=aM_ ((by rw [hg];exact (bS_ (by exact bZ_ HB)) : w.heap.size ≤ gb145));clear HB;have HB:=n0_;have BK145:=n1_;have GW145:=n2_;have GE145:=n3_;clear n0_ n1_ n2_ n3_;clear hb hbox hg;have hcz74_0 : w73.cell? ⟨gb145,0,none⟩ = some (.string a0_0):=(kC_ BK145.out 0).trans rfl;have hcz74_1 : w73.cell? ⟨gb145,1,none⟩ = some (.slice A0_1 l0_1.length c0_1):=(kC_ BK145.out 1).trans rfl;have hcz74_2 : w73.cell? ⟨gb145,2,none⟩ = some (.slice A0_2 l0_2.length c0_2):=(kC_ BK145.out 2).trans rfl;have hcz74_3 : w73.cell? ⟨gb145,3,none⟩ = some (.slice A0_3 l0_3.length c0_3):=(kC_ BK145.out 3).trans rfl;have hfz74_0:=kF_ BK145.out 0;have hfz74_1:=kF_ BK145.out 1;have hfz74_2:=kF_ BK145.out 2;have hfz74_3:=kF_ BK145.out 3) | ((with_reducible refine gate_callee (f:=54) rfl ?_);refine goesL_ (some 10) rfl rfl Tryd.func54 (by kernel_rfl) rfl #[.agg #[.string a0_0,.slice A0_1 l0_1.length c0_1,.slice A0_2 l0_2.length c0_2,.slice A0_3 l0_3.length c0_3]] rfl (by (try simp only [mA_,mC_,mN_]);first | done | rfl | (simp only [lD_,lT_];rfl)) ?_;(with_reducible refine (impl_namesOk.calls k a0_0 _ _ l0_1 _ _ l0_2 _ _ l0_3 false _ ?side1 ?side2 ?side3 ?side4 ?side5 ?side6 A2.out).mono ?_);(case side1=>repeat (first | exact (Kd.C_below HR0_1.out HB.out) | (with_reducible refine cA_ ?_ _) | (with_reducible refine cN_ ?_ _) | (with_reducible refine cD_ ?_)));(case side2=>exact HC0_1.out);(case side3=>repeat (first | exact (Kd.C_below HR0_2.out HB.out) | (with_reducible refine cA_ ?_ _) | (with_reducible refine cN_ ?_ _) | (with_reducible refine cD_ ?_)));(case side4=>exact HC0_2.out);(case side5=>repeat (first | exact (Kd.C_below HR0_3.out HB.out) | (with_reducible refine cA_ ?_ _) | (with_reducible refine cN_ ?_ _) | (with_reducible refine cD_ ?_)));(case side6=>exact HC0_3.out);rintro e w75 ⟨rfl,hb⟩;refine ⟨_,rfl,?_⟩;have n0_:=aM_ (blk_below (g:=gb145) (o:=.cells #[.string a0_0,.slice A0_1 l0_1.length c0_1,.slice A0_2 l0_2.length c0_2,.slice A0_3 l0_3.length c0_3] 35 (0,0)) (by exact kZ_ BK145) hb);have n1_:=aM_ (bT_ (by exact bZ_ HB) hb);clear BK145;clear HB;have BK145:=n0_;have HB:=n1_;clear n0_ n1_;(try clear hb);(try clear hb2);(try clear hk);(try clear hi)))
  go_ret
  exact ⟨by first | rfl | (simp [errW_none,errW_some] <;> rfl) | (simp [*, errW_none,errW_some] <;> rfl),by exact bZ_ HB⟩
def joinS (l : List ByteArray) (s : ByteArray) : ByteArray:=⟨(Lib.join (l.map (·.data.toList)) s.data.toList).toArray⟩
def strings_Join.f (a0 : List ByteArray) (a1 : ByteArray) : Option ByteArray:=if a0.length ≤ 140737488355328 ∧ (joinS a0 a1).size ≤ 140737488355328 then some (joinS a0 a1) else none
theorem strings_Join.calls (A0 : Option Addr) (c0 : Nat) (l0 : List ByteArray) (a1 : ByteArray) (r : ByteArray) (w : World) (hr0 : Kd.C Kd.string w A0 l0.length l0) (hc0 : l0.length ≤ c0) (h : strings_Join.f l0 a1 = some r) :
  Calls Tryd.prog 111 #[.slice A0 l0.length c0,.string a1] w fun e w'=>e = .returned (.string r) ∧ Below w.heap.size w w':=by
 unfold strings_Join.f at h
 by_cases hb : l0.length ≤ 140737488355328 ∧ (joinS l0 a1).size ≤ 140737488355328
 ·rw [if_pos hb] at h
  obtain rfl:=Option.some.inj h
  rcases Nat.eq_zero_or_pos l0.length with h0 | h0
  ·obtain rfl:=List.eq_nil_of_length_eq_zero h0
   exact (Tryd.strings_Join_none A0 c0 a1 w).mono fun e w' ⟨he,hw⟩=>⟨he,hw ▸ Below.refl _ _⟩
  ·obtain ⟨ad,rfl,hcell⟩:=hr0.2.2 h0
   have hc : ∀ (j : Nat) x,l0[j]? = some x → w.cell? (ad.add j) = some (.string x):=by
    intro j x hx
    obtain ⟨c,hl,hR,hcc⟩:=hcell j x hx
    have hR' : c = [.string x]:=hR
    have h1:=hcc 0 (.string x) (by rw [hR'];rfl)
    rw [show j * (Kd.string).sz + 0 = j from Nat.mul_one j] at h1
    exact h1
   obtain ⟨bk,o,sp⟩:=ad
   have z:=hc 0 _ (List.getElem?_eq_getElem h0)
   have z1 : w.cell? ⟨bk,o,sp⟩ = some (.string l0[0]):=by simpa [Addr.add] using z
   have hbk : bk < w.heap.size:=wL_ _ _ z1
   cases sp with
   | some s =>
    exfalso
    unfold World.cell? at z1
    split at z1 <;> simp at z1
   | none =>
    refine Tryd.strings_Join bk o c0 l0 a1 w (fun j x hx=>?_) hbk hb.1 hc0 ?_
    ·have y:=hc j x hx
     rwa [show (⟨bk,o,none⟩ : Addr).add j = ⟨bk,o + j,none⟩ from by unfold Addr.add;split <;> simp_all] at y
    ·have y:=hb.2
     simpa [joinS,ByteArray.size] using y
 ·rw [if_neg hb] at h
  cases h
end Go.Proofs.YtipehkeabnfngaaDoor.PFnExactDefText
