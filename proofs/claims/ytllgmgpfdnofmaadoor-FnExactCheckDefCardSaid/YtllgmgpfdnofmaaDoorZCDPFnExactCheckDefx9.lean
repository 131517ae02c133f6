import Derived.Test.YtllgmgpfdnofmaaDoorZCDPFnExactCheckDefx0
import Derived.Test.YtllgmgpfdnofmaaDoorZCDPFnExactCheckDefx6
import Derived.Test.YtllgmgpfdnofmaaDoorZCDPFnExactCheckDefx7
import Derived.Test.YtllgmgpfdnofmaaDoorZCDPFnExactCheckDefx8
namespace Go.Proofs.YtllgmgpfdnofmaaDoor.PFnExactCheckDef
open Go.RowKit Go.Proofs.YtllgmgpfdnofmaaDoorW.PrintWords Go.Proofs.YtllgmgpfdnofmaaDoorW.PrintLast Go.Proofs.YtllgmgpfdnofmaaDoorW.PrintMore Go.Proofs.YtllgmgpfdnofmaaDoor.Xtra
attribute [local go_sem] max2_int min2_int max_two min_two max_three min_three max_four min_four str_leq str_gtr str_geq setCell_drewN cell_set2 cell_set3   -- for this text's walks alone
set_option linter.unusedVariables false
set_option linter.unusedSimpArgs false
mutual
def impl_CheckDef.l0 : Nat → List (S42) → Int → Int → ByteArray → List (S42) → List (S44) → List (S50) → Option (Int)
 | 0,_,_,_,_,_,_,_=>none
 | k + 1,x18,x19,x20,x251000,x251001,x251002,x251003=>if x20 < x19 then (if 0 ≤ x20 then (if x20 < (x18.length : Int) then ((impl_in.f ((rd_T42 x18 x20).f1) 1 4).bind fun t255=>(if t255 = true then (impl_CheckDef.l0 k x18 x19 (wrap64 (x20 + 1)) x251000 x251001 x251002 x251003) else (some 2))) else (none)) else (none)) else ((impl_twice.f k x251000 x251001 x251002 x251003).bind fun t256=>(if t256 = true then (some 3) else (if (x251003.length : Int) > 2 then (some 6) else (impl_CheckDef.l1 k x251003 (x251003.length : Int) 0 x251000 x251001 x251002 x251003))))
def impl_CheckDef.l1 : Nat → List (S50) → Int → Int → ByteArray → List (S42) → List (S44) → List (S50) → Option (Int)
 | 0,_,_,_,_,_,_,_=>none
 | k + 1,x36,x37,x38,x251000,x251001,x251002,x251003=>if x38 < x37 then (if 0 ≤ x38 then (if x38 < (x36.length : Int) then ((impl_partsOk.f k x251000 x251001 x251002 x251003 ((rd_T50 x36 x38).f2)).bind fun t259=>(if t259 = true then (impl_CheckDef.l1 k x36 x37 (wrap64 (x38 + 1)) x251000 x251001 x251002 x251003) else (some 5))) else (none)) else (none)) else ((impl_partsOk.f k x251000 x251001 x251002 x251003 x251002).bind fun t260=>(if t260 = true then (impl_CheckDef.l2 k x251002 (x251002.length : Int) 0 x251000 x251001 x251002 x251003) else (some 5)))
def impl_CheckDef.l2 : Nat → List (S44) → Int → Int → ByteArray → List (S42) → List (S44) → List (S50) → Option (Int)
 | 0,_,_,_,_,_,_,_=>none
 | k + 1,x54,x55,x56,x251000,x251001,x251002,x251003=>if x56 < x55 then (if 0 ≤ x56 then (if x56 < (x54.length : Int) then (if 0 ≤ ((rd_T44 x54 x56).f0) then (if ((rd_T44 x54 x56).f0) < (x251001.length : Int) then (if (rd_T42 x251001 ((rd_T44 x54 x56).f0)).f2 = true then (some 4) else (impl_CheckDef.l2 k x54 x55 (wrap64 (x56 + 1)) x251000 x251001 x251002 x251003)) else (none)) else (none)) else (none)) else (none)) else (some 0)
end
def impl_CheckDef.f (k : Nat) (a0_0 : ByteArray) (l0_1 : List (S42)) (l0_2 : List (S44)) (l0_3 : List (S50)) : Option (Int):=(impl_namesOk.f k a0_0 l0_1 l0_2 l0_3).bind fun t251=>(if t251 = true then ((impl_in.f (l0_1.length : Int) 1 6).bind fun t252=>(if t252 = true then (impl_CheckDef.l0 k l0_1 (l0_1.length : Int) 0 a0_0 l0_1 l0_2 l0_3) else (some 2))) else (some 1))
theorem impl_CheckDef.mono_l : ∀ k,(∀ y0 y1 y2 y3 y4 y5 y6,LeO (impl_CheckDef.l0 k y0 y1 y2 y3 y4 y5 y6) (impl_CheckDef.l0 (k + 1) y0 y1 y2 y3 y4 y5 y6)) ∧ (∀ y0 y1 y2 y3 y4 y5 y6,LeO (impl_CheckDef.l1 k y0 y1 y2 y3 y4 y5 y6) (impl_CheckDef.l1 (k + 1) y0 y1 y2 y3 y4 y5 y6)) ∧ (∀ y0 y1 y2 y3 y4 y5 y6,LeO (impl_CheckDef.l2 k y0 y1 y2 y3 y4 y5 y6) (impl_CheckDef.l2 (k + 1) y0 y1 y2 y3 y4 y5 y6))
 | 0=>⟨fun _ _ _ _ _ _ _ r h=>by simp [impl_CheckDef.l0] at h,fun _ _ _ _ _ _ _ r h=>by simp [impl_CheckDef.l1] at h,fun _ _ _ _ _ _ _ r h=>by simp [impl_CheckDef.l2] at h⟩
 | k + 1=>by
  obtain ⟨ih0,ih1,ih2⟩:=impl_CheckDef.mono_l k
  refine ⟨?_,?_,?_⟩
  ·intro y0 y1 y2 y3 y4 y5 y6
   unfold impl_CheckDef.l0
   repeat' first
   | (with_reducible exact ih0 _ _ _ _ _ _ _)
   | (with_reducible exact ih1 _ _ _ _ _ _ _)
   | (with_reducible exact ih2 _ _ _ _ _ _ _)
   | (with_reducible exact impl_namesOk.mono _ _ _ _ _)
   | (with_reducible exact impl_partsOk.mono _ _ _ _ _ _)
   | (with_reducible exact impl_twice.mono _ _ _ _ _)
   | (with_reducible exact LeO.refl _)
   | (with_reducible exact LeO.none _)
   | (with_reducible refine LeO.ite ?_ ?_)
   | (with_reducible refine LeO.bind ?_ (fun _=>?_))
   | exact ih0 _ _ _ _ _ _ _
   | exact ih1 _ _ _ _ _ _ _
   | exact ih2 _ _ _ _ _ _ _
   | exact impl_namesOk.mono _ _ _ _ _
   | exact impl_partsOk.mono _ _ _ _ _ _
   | exact impl_twice.mono _ _ _ _ _
   | exact LeO.none _
   | refine LeO.ite ?_ ?_
   | refine LeO.bind ?_ (fun _=>?_)
  ·intro y0 y1 y2 y3 y4 y5 y6
   unfold impl_CheckDef.l1
   repeat' first
   | (with_reducible exact ih0 _ _ _ _ _ _ _)
   | (with_reducible exact ih1 _ _ _ _ _ _ _)
   | (with_reducible exact ih2 _ _ _ _ _ _ _)
   | (with_reducible exact impl_namesOk.mono _ _ _ _ _)
   | (with_reducible exact impl_partsOk.mono _ _ _ _ _ _)
   | (with_reducible exact impl_twice.mono _ _ _ _ _)
   | (with_reducible exact LeO.refl _)
   | (with_reducible exact LeO.none _)
   | (with_reducible refine LeO.ite ?_ ?_)
   | (with_reducible refine LeO.bind ?_ (fun _=>?_))
   | exact ih0 _ _ _ _ _ _ _
   | exact ih1 _ _ _ _ _ _ _
   | exact ih2 _ _ _ _ _ _ _
   | exact impl_namesOk.mono _ _ _ _ _
   | exact impl_partsOk.mono _ _ _ _ _ _
   | exact impl_twice.mono _ _ _ _ _
   | exact LeO.none _
   | refine LeO.ite ?_ ?_
   | refine LeO.bind ?_ (fun _=>?_)
  ·intro y0 y1 y2 y3 y4 y5 y6
   unfold impl_CheckDef.l2
   repeat' first
   | (with_reducible exact ih0 _ _ _ _ _ _ _)
   | (with_reducible exact ih1 _ _ _ _ _ _ _)
   | (with_reducible exact ih2 _ _ _ _ _ _ _)
   | (with_reducible exact impl_namesOk.mono _ _ _ _ _)
   | (with_reducible exact impl_partsOk.mono _ _ _ _ _ _)
   | (with_reducible exact impl_twice.mono _ _ _ _ _)
   | (with_reducible exact LeO.refl _)
   | (with_reducible exact LeO.none _)
   | (with_reducible refine LeO.ite ?_ ?_)
   | (with_reducible refine LeO.bind ?_ (fun _=>?_))
   | exact ih0 _ _ _ _ _ _ _
   | exact ih1 _ _ _ _ _ _ _
   | exact ih2 _ _ _ _ _ _ _
   | exact impl_namesOk.mono _ _ _ _ _
   | exact impl_partsOk.mono _ _ _ _ _ _
   | exact impl_twice.mono _ _ _ _ _
   | exact LeO.none _
   | refine LeO.ite ?_ ?_
   | refine LeO.bind ?_ (fun _=>?_)
theorem impl_CheckDef.mono : ∀ a0 a1 a2 a3 k,LeO (impl_CheckDef.f k a0 a1 a2 a3) (impl_CheckDef.f (k + 1) a0 a1 a2 a3):=by
 intro a0 a1 a2 a3 k
 obtain ⟨ih0,ih1,ih2⟩:=impl_CheckDef.mono_l k
 unfold impl_CheckDef.f
 repeat' first
   | (with_reducible exact ih0 _ _ _ _ _ _ _)
   | (with_reducible exact ih1 _ _ _ _ _ _ _)
   | (with_reducible exact ih2 _ _ _ _ _ _ _)
   | (with_reducible exact impl_namesOk.mono _ _ _ _ _)
   | (with_reducible exact impl_partsOk.mono _ _ _ _ _ _)
   | (with_reducible exact impl_twice.mono _ _ _ _ _)
   | (with_reducible exact LeO.refl _)
   | (with_reducible exact LeO.none _)
   | (with_reducible refine LeO.ite ?_ ?_)
   | (with_reducible refine LeO.bind ?_ (fun _=>?_))
   | exact ih0 _ _ _ _ _ _ _
   | exact ih1 _ _ _ _ _ _ _
   | exact ih2 _ _ _ _ _ _ _
   | exact impl_namesOk.mono _ _ _ _ _
   | exact impl_partsOk.mono _ _ _ _ _ _
   | exact impl_twice.mono _ _ _ _ _
   | exact LeO.none _
   | refine LeO.ite ?_ ?_
   | refine LeO.bind ?_ (fun _=>?_)
set_option maxHeartbeats 8000000 in
set_option maxRecDepth 100000 in
theorem impl_CheckDef.calls (k : Nat) (a0_0 : ByteArray) (A0_1 : Option Addr) (c0_1 : Nat) (l0_1 : List (S42)) (A0_2 : Option Addr) (c0_2 : Nat) (l0_2 : List (S44)) (A0_3 : Option Addr) (c0_3 : Nat) (l0_3 : List (S50)) (r : Int) (w : World) (hr0_1 : Kd.C k42 w A0_1 l0_1.length l0_1) (hc0_1 : l0_1.length ≤ c0_1) (hr0_2 : Kd.C k44 w A0_2 l0_2.length l0_2) (hc0_2 : l0_2.length ≤ c0_2) (hr0_3 : Kd.C k50 w A0_3 l0_3.length l0_3) (hc0_3 : l0_3.length ≤ c0_3) (h : impl_CheckDef.f k a0_0 l0_1 l0_2 l0_3 = some r) :
  Calls Tryd.prog 7 #[.agg #[.string a0_0,.slice A0_1 l0_1.length c0_1,.slice A0_2 l0_2.length c0_2,.slice A0_3 l0_3.length c0_3]] w fun e w'=>e = .returned (.int .i64 r) ∧ Below w.heap.size w w':=by
 have hu33:=Tryd.underlying33
 have hu42:=Tryd.underlying42
 have hu50:=Tryd.underlying50
 have hu44:=Tryd.underlying44
 have HR0_1:=aM_ hr0_1
 have HC0_1:=aM_ hc0_1
 clear hr0_1 hc0_1
 have HR0_2:=aM_ hr0_2
 have HC0_2:=aM_ hc0_2
 clear hr0_2 hc0_2
 have HR0_3:=aM_ hr0_3
 have HC0_3:=aM_ hc0_3
 clear hr0_3 hc0_3
 have HB:=aM_ (Below.refl w.heap.size w)
 have H : ((impl_namesOk.f k a0_0 l0_1 l0_2 l0_3).bind fun t251=>(if t251 = true then ((impl_in.f (l0_1.length : Int) 1 6).bind fun t252=>(if t252 = true then (impl_CheckDef.l0 k l0_1 (l0_1.length : Int) 0 a0_0 l0_1 l0_2 l0_3) else (some 2))) else (some 1))) = some r:=h
 clear h
 replace H:=oB_ H
 obtain ⟨t251,A20,H⟩:=H
 replace H : (if t251 = true then ((impl_in.f (l0_1.length : Int) 1 6).bind fun t252=>(if t252 = true then (impl_CheckDef.l0 k l0_1 (l0_1.length : Int) 0 a0_0 l0_1 l0_2 l0_3) else (some 2))) else (some 1)) = some r:=H
 have A2:=aM_ A20
 clear A20
 by_cases c3 : t251 = true
 ·subst c3
  have H1 : ((impl_in.f (l0_1.length : Int) 1 6).bind fun t252=>(if t252 = true then (impl_CheckDef.l0 k l0_1 (l0_1.length : Int) 0 a0_0 l0_1 l0_2 l0_3) else (some 2))) = some r:=by rw [if_pos rfl] at H;exact H
  clear H
  have H:=H1
  clear H1
  replace H:=oB_ H
  obtain ⟨t252,A40,H⟩:=H
  replace H : (if t252 = true then (impl_CheckDef.l0 k l0_1 (l0_1.length : Int) 0 a0_0 l0_1 l0_2 l0_3) else (some 2)) = some r:=H
  have A4:=aM_ A40
  clear A40
  by_cases c5 : t252 = true
  ·subst c5
   have H1 : (impl_CheckDef.l0 k l0_1 (l0_1.length : Int) 0 a0_0 l0_1 l0_2 l0_3) = some r:=by rw [if_pos rfl] at H;exact H
   clear H
   have H:=H1
   clear H1
   have H':=aM_ H
   clear H
   go_enter Tryd.func7,Tryd.ntmps7
   go_wp2_with (first | ((with_reducible refine gate_dst (N:=1) rfl ?_);refine box_event ?hg (N:=1) ?hd (cs:=#[.string a0_0,.slice A0_1 l0_1.length c0_1,.slice A0_2 l0_2.length c0_2,.slice A0_3 l0_3.length c0_3]) (t:=33) ?hr ?_;(case hd=>rfl);(case hg=>rfl);(case hr=>first | (go_simp;done) | (go_simp;rfl));intro gb250 hg w6 hbox hb;have n0_:=aM_ (bT_ (by exact bZ_ HB) hb);have n1_:=aM_ (hbox);have n2_:=aM_ ((by rw [hg];exact (bS_ (by exact bZ_ HB)) : w.heap.size ≤ gb250));have n3_:=aM_ ((by rw [hg];exact (bS_ (by exact bZ_ HB)) : w.heap.size ≤ gb250));clear HB;have HB:=n0_;have BK250:=n1_;have GW250:=n2_;have GE250:=n3_;clear n0_ n1_ n2_ n3_;clear hb hbox hg;have hcz7_0 : w6.cell? ⟨gb250,0,none⟩ = some (.string a0_0):=(kC_ BK250.out 0).trans rfl;have hcz7_1 : w6.cell? ⟨gb250,1,none⟩ = some (.slice A0_1 l0_1.length c0_1):=(kC_ BK250.out 1).trans rfl;have hcz7_2 : w6.cell? ⟨gb250,2,none⟩ = some (.slice A0_2 l0_2.length c0_2):=(kC_ BK250.out 2).trans rfl;have hcz7_3 : w6.cell? ⟨gb250,3,none⟩ = some (.slice A0_3 l0_3.length c0_3):=(kC_ BK250.out 3).trans rfl;have hfz7_0:=kF_ BK250.out 0;have hfz7_1:=kF_ BK250.out 1;have hfz7_2:=kF_ BK250.out 2;have hfz7_3:=kF_ BK250.out 3) | ((with_reducible refine gate_callee (f:=19) rfl ?_);refine goesL_ (some 10) rfl rfl Tryd.func19 (by kernel_rfl) rfl #[.agg #[.string a0_0,.slice A0_1 l0_1.length c0_1,.slice A0_2 l0_2.length c0_2,.slice A0_3 l0_3.length c0_3]] rfl (by (try simp only [mA_,mC_,mN_]);first | done | rfl | (simp only [lD_,lT_];rfl)) ?_;(with_reducible refine (impl_namesOk.calls k a0_0 _ _ l0_1 _ _ l0_2 _ _ l0_3 true _ ?side1 ?side2 ?side3 ?side4 ?side5 ?side6 A2.out).mono ?_);(case side1=>repeat (first | exact (Kd.C_below HR0_1.out HB.out) | (with_reducible refine cA_ ?_ _) | (with_reducible refine cN_ ?_ _) | (with_reducible refine cD_ ?_)));(case side2=>exact HC0_1.out);(case side3=>repeat (first | exact (Kd.C_below HR0_2.out HB.out) | (with_reducible refine cA_ ?_ _) | (with_reducible refine cN_ ?_ _) | (with_reducible refine cD_ ?_)));(case side4=>exact HC0_2.out);(case side5=>repeat (first | exact (Kd.C_below HR0_3.out HB.out) | (with_reducible refine cA_ ?_ _) | (with_reducible refine cN_ ?_ _) | (with_reducible refine cD_ ?_)));(case side6=>exact HC0_3.out);rintro e w8 ⟨rfl,hb⟩;refine ⟨_,rfl,?_⟩;have n0_:=aM_ (blk_below (g:=gb250) (o:=.cells #[.string a0_0,.slice A0_1 l0_1.length c0_1,.slice A0_2 l0_2.length c0_2,.slice A0_3 l0_3.length c0_3] 33 (0,0)) (by exact kZ_ BK250) hb);have n1_:=aM_ (bT_ (by exact bZ_ HB) hb);clear BK250;clear HB;have BK250:=n0_;have HB:=n1_;clear n0_ n1_;(try clear hb);(try clear hb2);(try clear hk);(try clear hi);have hcz9_0 : w8.cell? ⟨gb250,0,none⟩ = some (.string a0_0):=(kC_ BK250.out 0).trans rfl;have hcz9_1 : w8.cell? ⟨gb250,1,none⟩ = some (.slice A0_1 l0_1.length c0_1):=(kC_ BK250.out 1).trans rfl;have hcz9_2 : w8.cell? ⟨gb250,2,none⟩ = some (.slice A0_2 l0_2.length c0_2):=(kC_ BK250.out 2).trans rfl;have hcz9_3 : w8.cell? ⟨gb250,3,none⟩ = some (.slice A0_3 l0_3.length c0_3):=(kC_ BK250.out 3).trans rfl;have hfz9_0:=kF_ BK250.out 0;have hfz9_1:=kF_ BK250.out 1;have hfz9_2:=kF_ BK250.out 2;have hfz9_3:=kF_ BK250.out 3) | ((with_reducible refine gate_callee (f:=20) rfl ?_);refine goesL_ (some 15) rfl rfl Tryd.func20 (by kernel_rfl) rfl #[.int .i64 (l0_1.length : Int),.int .i64 1,.int .i64 6] rfl (by (try simp only [mA_,mC_,mN_]);first | done | rfl | (simp only [lD_,lT_];rfl)) ?_;(with_reducible refine (impl_in.calls (l0_1.length : Int) 1 6 true _ A4.out).mono ?_);rintro e w' ⟨rfl,⟨nd,rfl⟩⟩;refine ⟨_,rfl,?_⟩))
   (try simp only [Act.put,sI_,sS_,sZ_])
   go_loopg [20] k (fun kq v20 w'=>∃ (x20_1 : Int),v20 = .int .i64 x20_1 ∧ Aside0 (impl_CheckDef.l0 kq l0_1 (l0_1.length : Int) x20_1 a0_0 l0_1 l0_2 l0_3 = some r) ∧ Aside0 (kq ≤ k) ∧ Aside0 (w'.heap[gb250]? = some (.cells #[.string a0_0,(.slice A0_1 l0_1.length c0_1),(.slice A0_2 l0_2.length c0_2),(.slice A0_3 l0_3.length c0_3)] 33 (0,0))) ∧ Aside0 (Below w.heap.size w w'))
   case atStart=>exact ⟨(0),(by first | rfl | (simp;done) | (simp [*];done)),H', ⟨Nat.le_refl _⟩,⟨by exact kZ_ BK250⟩,⟨by exact bZ_ HB⟩⟩
   case round =>
    clear H'
    try clear c1
    try clear c2
    try clear p2
    try clear c3
    try clear c5
    try clear c7
    try clear hcz7_0
    try clear hcz7_1
    try clear hcz7_2
    try clear hcz7_3
    try clear hcz9_0
    try clear hcz9_1
    try clear hcz9_2
    try clear hcz9_3
    try clear hfz7_0
    try clear hfz7_1
    try clear hfz7_2
    try clear hfz7_3
    try clear hfz9_0
    try clear hfz9_1
    try clear hfz9_2
    try clear hfz9_3
    obtain ⟨x20_1,rfl,HA,HK1,BK250,HB⟩:=hrel
    cases gk with
    | zero=>exact absurd HA.out (by simp [impl_CheckDef.l0])
    | succ k1 =>
     have H:=HA.out
     clear HA
     simp only [impl_CheckDef.l0] at H
     by_cases c10 : x20_1 < (l0_1.length : Int)
     ·rw [if_pos c10] at H
      have c10b0 : decide (x20_1 < (l0_1.length : Int)) = true:=decide_eq_true c10
      clear c10
      by_cases c11 : 0 ≤ x20_1
      ·rw [if_pos c11] at H
       have c11b0 : decide (0 ≤ x20_1) = true:=decide_eq_true c11
       clear c11
       by_cases c12 : x20_1 < (l0_1.length : Int)
       ·rw [if_pos c12] at H
        have c12b0 : decide (x20_1 < (l0_1.length : Int)) = true:=decide_eq_true c12
        clear c12
        replace H:=oB_ H
        obtain ⟨t255,A130,H⟩:=H
        replace H : (if t255 = true then (impl_CheckDef.l0 k1 l0_1 (l0_1.length : Int) (wrap64 (x20_1 + 1)) a0_0 l0_1 l0_2 l0_3) else (some 2)) = some r:=H
        have A13:=aM_ A130
        clear A130
        by_cases c14 : t255 = true
        ·subst c14
         have H1 : (impl_CheckDef.l0 k1 l0_1 (l0_1.length : Int) (wrap64 (x20_1 + 1)) a0_0 l0_1 l0_2 l0_3) = some r:=by rw [if_pos rfl] at H;exact H
         clear H
         have H:=H1
         clear H1
         have H':=aM_ H
         clear H
         have p253 : 0 ≤ (x20_1 : Int):=oT_ (by first | (with_reducible assumption) | assumption)
         have q253 : x20_1 < (l0_1.length : Int):=oT_ (by first | (with_reducible assumption) | assumption)
         obtain ⟨ad253,e253,hx253_0,hx253_1,hx253_2⟩:=at_T42 HR0_1.out x20_1 p253 q253
         cases e253
         replace hx253_0:=(HB.out.cell (wL_ w _ hx253_0)).trans hx253_0
         replace hx253_1:=(HB.out.cell (wL_ w _ hx253_1)).trans hx253_1
         replace hx253_2:=(HB.out.cell (wL_ w _ hx253_2)).trans hx253_2
         replace p253:=eq_true p253
         replace q253:=eq_true q253
         go_wp2_with (first | ((with_reducible refine gate_dst (N:=4) rfl ?_);refine box_event ?hg (N:=4) ?hd (cs:=#[.string (⟨#[]⟩ : ByteArray),.int .i64 0,.bool false]) (t:=42) ?hr ?_;(case hd=>rfl);(case hg=>rfl);(case hr=>first | (go_simp;done) | (go_simp;rfl));intro gb254 hg w15 hbox hb;have n0_:=aM_ (blk_below (g:=gb250) (o:=.cells #[.string a0_0,.slice (some ad253) l0_1.length c0_1,.slice A0_2 l0_2.length c0_2,.slice A0_3 l0_3.length c0_3] 33 (0,0)) (by exact kZ_ BK250) hb);have n1_:=aM_ (bT_ (by exact bZ_ HB) hb);have n2_:=aM_ (hbox);have n3_:=aM_ ((by rw [hg];exact (bS_ (by exact bZ_ HB)) : w.heap.size ≤ gb254));have n4_:=aM_ ((by rw [hg];exact (bS_ (by exact bZ_ HB)) : w.heap.size ≤ gb254));have n5_:=aM_ ((by rw [hg];exact Nat.ne_of_lt (blk_lt (g:=gb250) (o:=.cells #[.string a0_0,.slice (some ad253) l0_1.length c0_1,.slice A0_2 l0_2.length c0_2,.slice A0_3 l0_3.length c0_3] 33 (0,0)) (by exact kZ_ BK250)) : gb250 ≠ gb254));have n6_:=aM_ ((by rw [hg];exact Nat.ne_of_gt (blk_lt (g:=gb250) (o:=.cells #[.string a0_0,.slice (some ad253) l0_1.length c0_1,.slice A0_2 l0_2.length c0_2,.slice A0_3 l0_3.length c0_3] 33 (0,0)) (by exact kZ_ BK250)) : gb254 ≠ gb250));clear BK250;clear HB;have BK250:=n0_;have HB:=n1_;have BK254:=n2_;have GW254:=n3_;have GE254:=n4_;have NB250_254:=n5_;have NB254_250:=n6_;clear n0_ n1_ n2_ n3_ n4_ n5_ n6_;clear hb hbox hg;have hnb16:=NB254_250.out;have hnc16:=NB250_254.out;have hcz17_0 : w15.cell? ⟨gb254,0,none⟩ = some (.string (⟨#[]⟩ : ByteArray)):=(kC_ BK254.out 0).trans rfl;have hcz17_1 : w15.cell? ⟨gb254,1,none⟩ = some (.int .i64 0):=(kC_ BK254.out 1).trans rfl;have hcz17_2 : w15.cell? ⟨gb254,2,none⟩ = some (.bool false):=(kC_ BK254.out 2).trans rfl;have hfz17_0:=kF_ BK254.out 0;have hfz17_1:=kF_ BK254.out 1;have hfz17_2:=kF_ BK254.out 2) | ((with_reducible refine gate_callee (f:=20) rfl ?_);refine goesL_ (some 26) rfl rfl Tryd.func20 (by kernel_rfl) rfl #[.int .i64 ((rd_T42 l0_1 x20_1).f1),.int .i64 1,.int .i64 4] rfl (by (try simp only [mA_,mC_,mN_]);first | done | rfl | (simp only [lD_,lT_];rfl)) ?_;(with_reducible refine (impl_in.calls ((rd_T42 l0_1 x20_1).f1) 1 4 true _ A13.out).mono ?_);rintro e w' ⟨rfl,⟨nd,rfl⟩⟩;refine ⟨_,rfl,?_⟩))
         go_roundg k1
         case measure=>have:=HK1.out;omega
         case rel=>exact ⟨(wrap64 (x20_1 + 1)),(by first | rfl | (simp;done) | (simp [*];done)),H', ⟨by have:=HK1.out;omega⟩,⟨by exact kW_ BK250⟩,⟨by exact bZ_ HB⟩⟩
        ·replace c14:=Bool.eq_false_iff.mpr c14
         subst c14
         have H1 : (some 2) = some r:=by rw [if_neg (show ¬ (false = true) by decide)] at H;exact H
         clear H
         have H:=H1
         clear H1
         obtain rfl:=Option.some.inj H
         have p253 : 0 ≤ (x20_1 : Int):=oT_ (by first | (with_reducible assumption) | assumption)
         have q253 : x20_1 < (l0_1.length : Int):=oT_ (by first | (with_reducible assumption) | assumption)
         obtain ⟨ad253,e253,hx253_0,hx253_1,hx253_2⟩:=at_T42 HR0_1.out x20_1 p253 q253
         cases e253
         replace hx253_0:=(HB.out.cell (wL_ w _ hx253_0)).trans hx253_0
         replace hx253_1:=(HB.out.cell (wL_ w _ hx253_1)).trans hx253_1
         replace hx253_2:=(HB.out.cell (wL_ w _ hx253_2)).trans hx253_2
         replace p253:=eq_true p253
         replace q253:=eq_true q253
         go_wp2_with (first | ((with_reducible refine gate_dst (N:=4) rfl ?_);refine box_event ?hg (N:=4) ?hd (cs:=#[.string (⟨#[]⟩ : ByteArray),.int .i64 0,.bool false]) (t:=42) ?hr ?_;(case hd=>rfl);(case hg=>rfl);(case hr=>first | (go_simp;done) | (go_simp;rfl));intro gb254 hg w18 hbox hb;have n0_:=aM_ (blk_below (g:=gb250) (o:=.cells #[.string a0_0,.slice (some ad253) l0_1.length c0_1,.slice A0_2 l0_2.length c0_2,.slice A0_3 l0_3.length c0_3] 33 (0,0)) (by exact kZ_ BK250) hb);have n1_:=aM_ (bT_ (by exact bZ_ HB) hb);have n2_:=aM_ (hbox);have n3_:=aM_ ((by rw [hg];exact (bS_ (by exact bZ_ HB)) : w.heap.size ≤ gb254));have n4_:=aM_ ((by rw [hg];exact (bS_ (by exact bZ_ HB)) : w.heap.size ≤ gb254));have n5_:=aM_ ((by rw [hg];exact Nat.ne_of_lt (blk_lt (g:=gb250) (o:=.cells #[.string a0_0,.slice (some ad253) l0_1.length c0_1,.slice A0_2 l0_2.length c0_2,.slice A0_3 l0_3.length c0_3] 33 (0,0)) (by exact kZ_ BK250)) : gb250 ≠ gb254));have n6_:=aM_ ((by rw [hg];exact Nat.ne_of_gt (blk_lt (g:=gb250) (o:=.cells #[.string a0_0,.slice (some ad253) l0_1.length c0_1,.slice A0_2 l0_2.length c0_2,.slice A0_3 l0_3.length c0_3] 33 (0,0)) (by exact kZ_ BK250)) : gb254 ≠ gb250));clear BK250;clear HB;have BK250:=n0_;have HB:=n1_;have BK254:=n2_;have GW254:=n3_;have GE254:=n4_;have NB250_254:=n5_;have NB254_250:=n6_;clear n0_ n1_ n2_ n3_ n4_ n5_ n6_;clear hb hbox hg;have hnb19:=NB254_250.out;have hnc19:=NB250_254.out;have hcz20_0 : w18.cell? ⟨gb254,0,none⟩ = some (.string (⟨#[]⟩ : ByteArray)):=(kC_ BK254.out 0).trans rfl;have hcz20_1 : w18.cell? ⟨gb254,1,none⟩ = some (.int .i64 0):=(kC_ BK254.out 1).trans rfl;have hcz20_2 : w18.cell? ⟨gb254,2,none⟩ = some (.bool false):=(kC_ BK254.out 2).trans rfl;have hfz20_0:=kF_ BK254.out 0;have hfz20_1:=kF_ BK254.out 1;have hfz20_2:=kF_ BK254.out 2) | ((with_reducible refine gate_callee (f:=20) rfl ?_);refine goesL_ (some 26) rfl rfl Tryd.func20 (by kernel_rfl) rfl #[.int .i64 ((rd_T42 l0_1 x20_1).f1),.int .i64 1,.int .i64 4] rfl (by (try simp only [mA_,mC_,mN_]);first | done | rfl | (simp only [lD_,lT_];rfl)) ?_;(with_reducible refine (impl_in.calls ((rd_T42 l0_1 x20_1).f1) 1 4 false _ A13.out).mono ?_);rintro e w' ⟨rfl,⟨nd,rfl⟩⟩;refine ⟨_,rfl,?_⟩))
         go_ret
         exact ⟨by first | rfl | (simp [errW_none,errW_some] <;> rfl) | (simp [*, errW_none,errW_some] <;> rfl),by exact bZ_ HB⟩
       ·rw [if_neg c12] at H
        exact absurd H (by simp)
      ·rw [if_neg c11] at H
       exact absurd H (by simp)
     ·rw [if_neg c10] at H
      have c10b0 : decide (x20_1 < (l0_1.length : Int)) = false:=decide_eq_false c10
      clear c10
      replace H:=oB_ H
      obtain ⟨t256,A210,H⟩:=H
      replace H : (if t256 = true then (some 3) else (if (l0_3.length : Int) > 2 then (some 6) else (impl_CheckDef.l1 k1 l0_3 (l0_3.length : Int) 0 a0_0 l0_1 l0_2 l0_3))) = some r:=H
      have A21:=aM_ A210
      clear A210
      by_cases c22 : t256 = true
      ·subst c22
       have H1 : (some 3) = some r:=by rw [if_pos rfl] at H;exact H
       clear H
       have H:=H1
       clear H1
       obtain rfl:=Option.some.inj H
       have hcz23_0 : wr.cell? ⟨gb250,0,none⟩ = some (.string a0_0):=(kC_ BK250.out 0).trans rfl
       have hcz23_1 : wr.cell? ⟨gb250,1,none⟩ = some (.slice A0_1 l0_1.length c0_1):=(kC_ BK250.out 1).trans rfl
       have hcz23_2 : wr.cell? ⟨gb250,2,none⟩ = some (.slice A0_2 l0_2.length c0_2):=(kC_ BK250.out 2).trans rfl
       have hcz23_3 : wr.cell? ⟨gb250,3,none⟩ = some (.slice A0_3 l0_3.length c0_3):=(kC_ BK250.out 3).trans rfl
       have hfz23_0:=kF_ BK250.out 0
       have hfz23_1:=kF_ BK250.out 1
       have hfz23_2:=kF_ BK250.out 2
       have hfz23_3:=kF_ BK250.out 3
       go_wp2_with (first | ((with_reducible refine gate_callee (f:=21) rfl ?_);refine goesL_ (some 30) rfl rfl Tryd.func21 (by kernel_rfl) rfl #[.agg #[.string a0_0,.slice A0_1 l0_1.length c0_1,.slice A0_2 l0_2.length c0_2,.slice A0_3 l0_3.length c0_3]] rfl (by (try simp only [mA_,mC_,mN_]);first | done | rfl | (simp only [lD_,lT_];rfl)) ?_;(with_reducible refine (impl_twice.calls k1 a0_0 _ _ l0_1 _ _ l0_2 _ _ l0_3 true _ ?side1 ?side2 ?side3 ?side4 ?side5 ?side6 A21.out).mono ?_);(case side1=>repeat (first | exact (Kd.C_below HR0_1.out HB.out) | (with_reducible refine cA_ ?_ _) | (with_reducible refine cN_ ?_ _) | (with_reducible refine cD_ ?_)));(case side2=>exact HC0_1.out);(case side3=>repeat (first | exact (Kd.C_below HR0_2.out HB.out) | (with_reducible refine cA_ ?_ _) | (with_reducible refine cN_ ?_ _) | (with_reducible refine cD_ ?_)));(case side4=>exact HC0_2.out);(case side5=>repeat (first | exact (Kd.C_below HR0_3.out HB.out) | (with_reducible refine cA_ ?_ _) | (with_reducible refine cN_ ?_ _) | (with_reducible refine cD_ ?_)));(case side6=>exact HC0_3.out);rintro e w24 ⟨rfl,hb⟩;refine ⟨_,rfl,?_⟩;have n0_:=aM_ (blk_below (g:=gb250) (o:=.cells #[.string a0_0,.slice A0_1 l0_1.length c0_1,.slice A0_2 l0_2.length c0_2,.slice A0_3 l0_3.length c0_3] 33 (0,0)) (by exact kZ_ BK250) hb);have n1_:=aM_ (bT_ (by exact bZ_ HB) hb);clear BK250;clear HB;have BK250:=n0_;have HB:=n1_;clear n0_ n1_;(try clear hb);(try clear hb2);(try clear hk);(try clear hi)))
       go_ret
       exact ⟨by first | rfl | (simp [errW_none,errW_some] <;> rfl) | (simp [*, errW_none,errW_some] <;> rfl),by exact bZ_ HB⟩
      ·replace c22:=Bool.eq_false_iff.mpr c22
       subst c22
       have H1 : (if (l0_3.length : Int) > 2 then (some 6) else (impl_CheckDef.l1 k1 l0_3 (l0_3.length : Int) 0 a0_0 l0_1 l0_2 l0_3)) = some r:=by rw [if_neg (show ¬ (false = true) by decide)] at H;exact H
       clear H
       have H:=H1
       clear H1
       by_cases c25 : (l0_3.length : Int) > 2
       ·rw [if_pos c25] at H
        have c25b0 : decide (2 < (l0_3.length : Int)) = true:=decide_eq_true c25
        have c25b1 : decide (2 < l0_3.length) = true:=decide_eq_true (by omega)
        clear c25
        obtain rfl:=Option.some.inj H
        have hcz26_0 : wr.cell? ⟨gb250,0,none⟩ = some (.string a0_0):=(kC_ BK250.out 0).trans rfl
        have hcz26_1 : wr.cell? ⟨gb250,1,none⟩ = some (.slice A0_1 l0_1.length c0_1):=(kC_ BK250.out 1).trans rfl
        have hcz26_2 : wr.cell? ⟨gb250,2,none⟩ = some (.slice A0_2 l0_2.length c0_2):=(kC_ BK250.out 2).trans rfl
        have hcz26_3 : wr.cell? ⟨gb250,3,none⟩ = some (.slice A0_3 l0_3.length c0_3):=(kC_ BK250.out 3).trans rfl
        have hfz26_0:=kF_ BK250.out 0
        have hfz26_1:=kF_ BK250.out 1
        have hfz26_2:=kF_ BK250.out 2
        have hfz26_3:=kF_ BK250.out 3
        go_wp2_with (first | ((with_reducible refine gate_callee (f:=21) rfl ?_);refine goesL_ (some 30) rfl rfl Tryd.func21 (by kernel_rfl) rfl #[.agg #[.string a0_0,.slice A0_1 l0_1.length c0_1,.slice A0_2 l0_2.length c0_2,.slice A0_3 l0_3.length c0_3]] rfl (by (try simp only [mA_,mC_,mN_]);first | done | rfl | (simp only [lD_,lT_];rfl)) ?_;(with_reducible refine (impl_twice.calls k1 a0_0 _ _ l0_1 _ _ l0_2 _ _ l0_3 false _ ?side1 ?side2 ?side3 ?side4 ?side5 ?side6 A21.out).mono ?_);(case side1=>repeat (first | exact (Kd.C_below HR0_1.out HB.out) | (with_reducible refine cA_ ?_ _) | (with_reducible refine cN_ ?_ _) | (with_reducible refine cD_ ?_)));(case side2=>exact HC0_1.out);(case side3=>repeat (first | exact (Kd.C_below HR0_2.out HB.out) | (with_reducible refine cA_ ?_ _) | (with_reducible refine cN_ ?_ _) | (with_reducible refine cD_ ?_)));(case side4=>exact HC0_2.out);(case side5=>repeat (first | exact (Kd.C_below HR0_3.out HB.out) | (with_reducible refine cA_ ?_ _) | (with_reducible refine cN_ ?_ _) | (with_reducible refine cD_ ?_)));(case side6=>exact HC0_3.out);rintro e w27 ⟨rfl,hb⟩;refine ⟨_,rfl,?_⟩;have n0_:=aM_ (blk_below (g:=gb250) (o:=.cells #[.string a0_0,.slice A0_1 l0_1.length c0_1,.slice A0_2 l0_2.length c0_2,.slice A0_3 l0_3.length c0_3] 33 (0,0)) (by exact kZ_ BK250) hb);have n1_:=aM_ (bT_ (by exact bZ_ HB) hb);clear BK250;clear HB;have BK250:=n0_;have HB:=n1_;clear n0_ n1_;(try clear hb);(try clear hb2);(try clear hk);(try clear hi);have hcz28_0 : w27.cell? ⟨gb250,0,none⟩ = some (.string a0_0):=(kC_ BK250.out 0).trans rfl;have hcz28_1 : w27.cell? ⟨gb250,1,none⟩ = some (.slice A0_1 l0_1.length c0_1):=(kC_ BK250.out 1).trans rfl;have hcz28_2 : w27.cell? ⟨gb250,2,none⟩ = some (.slice A0_2 l0_2.length c0_2):=(kC_ BK250.out 2).trans rfl;have hcz28_3 : w27.cell? ⟨gb250,3,none⟩ = some (.slice A0_3 l0_3.length c0_3):=(kC_ BK250.out 3).trans rfl;have hfz28_0:=kF_ BK250.out 0;have hfz28_1:=kF_ BK250.out 1;have hfz28_2:=kF_ BK250.out 2;have hfz28_3:=kF_ BK250.out 3))
        go_ret
        exact ⟨by first | rfl | (simp [errW_none,errW_some] <;> rfl) | (simp [*, errW_none,errW_some] <;> rfl),by exact bZ_ HB⟩
       ·rw [if_neg c25] at H
        have c25b0 : decide (2 < (l0_3.length : Int)) = false:=decide_eq_false c25
        have c25b1 : decide (2 < l0_3.length) = false:=decide_eq_false (by omega)
        clear c25
        have H':=aM_ H
        clear H
        have hcz29_0 : wr.cell? ⟨gb250,0,none⟩ = some (.string a0_0):=(kC_ BK250.out 0).trans rfl
        have hcz29_1 : wr.cell? ⟨gb250,1,none⟩ = some (.slice A0_1 l0_1.length c0_1):=(kC_ BK250.out 1).trans rfl
        have hcz29_2 : wr.cell? ⟨gb250,2,none⟩ = some (.slice A0_2 l0_2.length c0_2):=(kC_ BK250.out 2).trans rfl
        have hcz29_3 : wr.cell? ⟨gb250,3,none⟩ = some (.slice A0_3 l0_3.length c0_3):=(kC_ BK250.out 3).trans rfl
        have hfz29_0:=kF_ BK250.out 0
        have hfz29_1:=kF_ BK250.out 1
        have hfz29_2:=kF_ BK250.out 2
        have hfz29_3:=kF_ BK250.out 3
        go_wp2_with (first | ((with_reducible refine gate_callee (f:=21) rfl ?_);refine goesL_ (some 30) rfl rfl Tryd.func21 (by kernel_rfl) rfl #[.agg #[.string a0_0,.slice A0_1 l0_1.length c0_1,.slice A0_2 l0_2.length c0_2,.slice A0_3 l0_3.length c0_3]] rfl (by (try simp only [mA_,mC_,mN_]);first | done | rfl | (simp only [lD_,lT_];rfl)) ?_;(with_reducible refine (impl_twice.calls k1 a0_0 _ _ l0_1 _ _ l0_2 _ _ l0_3 false _ ?side1 ?side2 ?side3 ?side4 ?side5 ?side6 A21.out).mono ?_);(case side1=>repeat (first | exact (Kd.C_below HR0_1.out HB.out) | (with_reducible refine cA_ ?_ _) | (with_reducible refine cN_ ?_ _) | (with_reducible refine cD_ ?_)));(case side2=>exact HC0_1.out);(case side3=>repeat (first | exact (Kd.C_below HR0_2.out HB.out) | (with_reducible refine cA_ ?_ _) | (with_reducible refine cN_ ?_ _) | (with_reducible refine cD_ ?_)));(case side4=>exact HC0_2.out);(case side5=>repeat (first | exact (Kd.C_below HR0_3.out HB.out) | (with_reducible refine cA_ ?_ _) | (with_reducible refine cN_ ?_ _) | (with_reducible refine cD_ ?_)));(case side6=>exact HC0_3.out);rintro e w30 ⟨rfl,hb⟩;refine ⟨_,rfl,?_⟩;have n0_:=aM_ (blk_below (g:=gb250) (o:=.cells #[.string a0_0,.slice A0_1 l0_1.length c0_1,.slice A0_2 l0_2.length c0_2,.slice A0_3 l0_3.length c0_3] 33 (0,0)) (by exact kZ_ BK250) hb);have n1_:=aM_ (bT_ (by exact bZ_ HB) hb);clear BK250;clear HB;have BK250:=n0_;have HB:=n1_;clear n0_ n1_;(try clear hb);(try clear hb2);(try clear hk);(try clear hi);have hcz31_0 : w30.cell? ⟨gb250,0,none⟩ = some (.string a0_0):=(kC_ BK250.out 0).trans rfl;have hcz31_1 : w30.cell? ⟨gb250,1,none⟩ = some (.slice A0_1 l0_1.length c0_1):=(kC_ BK250.out 1).trans rfl;have hcz31_2 : w30.cell? ⟨gb250,2,none⟩ = some (.slice A0_2 l0_2.length c0_2):=(kC_ BK250.out 2).trans rfl;have hcz31_3 : w30.cell? ⟨gb250,3,none⟩ = some (.slice A0_3 l0_3.length c0_3):=(kC_ BK250.out 3).trans rfl;have hfz31_0:=kF_ BK250.out 0;have hfz31_1:=kF_ BK250.out 1;have hfz31_2:=kF_ BK250.out 2;have hfz31_3:=kF_ BK250.out 3))
        (try simp only [Act.put,sI_,sS_,sZ_])
        go_loopg [38] k1 (fun kq v38 w'=>∃ (x38_2 : Int),v38 = .int .i64 x38_2 ∧ Aside0 (impl_CheckDef.l1 kq l0_3 (l0_3.length : Int) x38_2 a0_0 l0_1 l0_2 l0_3 = some r) ∧ Aside0 (kq ≤ k1) ∧ Aside0 (w'.heap[gb250]? = some (.cells #[.string a0_0,(.slice A0_1 l0_1.length c0_1),(.slice A0_2 l0_2.length c0_2),(.slice A0_3 l0_3.length c0_3)] 33 (0,0))) ∧ Aside0 (Below w.heap.size w w'))
        case atStart=>exact ⟨(0),(by first | rfl | (simp;done) | (simp [*];done)),H', ⟨Nat.le_refl _⟩,⟨by exact kZ_ BK250⟩,⟨by exact bZ_ HB⟩⟩
        case round =>
         clear H'
         try clear c1
         try clear c2
         try clear p2
         try clear q2
         try clear hx2
         try clear c3
         try clear c5
         try clear p6
         try clear c7
         try clear c10
         try clear c10b0
         try clear c11
         try clear c11b0
         try clear c12
         try clear c12b0
         try clear c14
         try clear c16
         try clear c19
         try clear c20
         try clear c21
         try clear c22
         try clear c25
         try clear c25b0
         try clear c25b1
         try clear p25
         try clear q25
         try clear hx25
         try clear hcz17_0
         try clear hcz17_1
         try clear hcz17_2
         try clear hcz20_0
         try clear hcz20_1
         try clear hcz20_2
         try clear hcz23_0
         try clear hcz23_1
         try clear hcz23_2
         try clear hcz23_3
         try clear hcz26_0
         try clear hcz26_1
         try clear hcz26_2
         try clear hcz26_3
         try clear hcz28_0
         try clear hcz28_1
         try clear hcz28_2
         try clear hcz28_3
         try clear hcz29_0
         try clear hcz29_1
         try clear hcz29_2
         try clear hcz29_3
         try clear hcz31_0
         try clear hcz31_1
         try clear hcz31_2
         try clear hcz31_3
         try clear hcz7_0
         try clear hcz7_1
         try clear hcz7_2
         try clear hcz7_3
         try clear hcz9_0
         try clear hcz9_1
         try clear hcz9_2
         try clear hcz9_3
         try clear hfz17_0
         try clear hfz17_1
         try clear hfz17_2
         try clear hfz20_0
         try clear hfz20_1
         try clear hfz20_2
         try clear hfz23_0
         try clear hfz23_1
         try clear hfz23_2
         try clear hfz23_3
         try clear hfz26_0
         try clear hfz26_1
         try clear hfz26_2
         try clear hfz26_3
         try clear hfz28_0
         try clear hfz28_1
         try clear hfz28_2
         try clear hfz28_3
         try clear hfz29_0
         try clear hfz29_1
         try clear hfz29_2
         try clear hfz29_3
         try clear hfz31_0
         try clear hfz31_1
         try clear hfz31_2
         try clear hfz31_3
         try clear hfz7_0
         try clear hfz7_1
         try clear hfz7_2
         try clear hfz7_3
         try clear hfz9_0
         try clear hfz9_1
         try clear hfz9_2
         try clear hfz9_3
         try clear hx253_0
         try clear hx253_1
         try clear hx253_2
         try clear p2
         try clear p253
         try clear q253
         obtain ⟨x38_2,rfl,HA,HK2,BK250,HB⟩:=hrel
         cases gk with
         | zero=>exact absurd HA.out (by simp [impl_CheckDef.l1])
         | succ k2 =>
          have H:=HA.out
          clear HA
          simp only [impl_CheckDef.l1] at H
          by_cases c32 : x38_2 < (l0_3.length : Int)
          ·rw [if_pos c32] at H
           have c32b0 : decide (x38_2 < (l0_3.length : Int)) = true:=decide_eq_true c32
           clear c32
           by_cases c33 : 0 ≤ x38_2
           ·rw [if_pos c33] at H
            have c33b0 : decide (0 ≤ x38_2) = true:=decide_eq_true c33
            clear c33
            by_cases c34 : x38_2 < (l0_3.length : Int)
            ·rw [if_pos c34] at H
             have c34b0 : decide (x38_2 < (l0_3.length : Int)) = true:=decide_eq_true c34
             clear c34
             replace H:=oB_ H
             obtain ⟨t259,A350,H⟩:=H
             replace H : (if t259 = true then (impl_CheckDef.l1 k2 l0_3 (l0_3.length : Int) (wrap64 (x38_2 + 1)) a0_0 l0_1 l0_2 l0_3) else (some 5)) = some r:=H
             have A35:=aM_ A350
             clear A350
             by_cases c36 : t259 = true
             ·subst c36
              have H1 : (impl_CheckDef.l1 k2 l0_3 (l0_3.length : Int) (wrap64 (x38_2 + 1)) a0_0 l0_1 l0_2 l0_3) = some r:=by rw [if_pos rfl] at H;exact H
              clear H
              have H:=H1
              clear H1
              have H':=aM_ H
              clear H
              have p257 : 0 ≤ (x38_2 : Int):=oT_ (by first | (with_reducible assumption) | assumption)
              have q257 : x38_2 < (l0_3.length : Int):=oT_ (by first | (with_reducible assumption) | assumption)
              obtain ⟨ad257,A257_2,c257_2,e257,hx257_0,hx257_1,hx257_2,hl257_2,hi257_2⟩:=at_T50 HR0_3.out x38_2 p257 q257
              cases e257
              replace hx257_0:=(HB.out.cell (wL_ w _ hx257_0)).trans hx257_0
              replace hx257_1:=(HB.out.cell (wL_ w _ hx257_1)).trans hx257_1
              replace hx257_2:=(HB.out.cell (wL_ w _ hx257_2)).trans hx257_2
              have HR257_2:=aM_ hi257_2
              have HC257_2:=aM_ hl257_2
              clear hi257_2 hl257_2
              replace p257:=eq_true p257
              replace q257:=eq_true q257
              go_wp2_with (first | ((with_reducible refine gate_dst (N:=6) rfl ?_);refine box_event ?hg (N:=6) ?hd (cs:=#[.string (⟨#[]⟩ : ByteArray),.bool false,.slice none 0 0]) (t:=50) ?hr ?_;(case hd=>rfl);(case hg=>rfl);(case hr=>first | (go_simp;done) | (go_simp;rfl));intro gb258 hg w37 hbox hb;have n0_:=aM_ (blk_below (g:=gb250) (o:=.cells #[.string a0_0,.slice A0_1 l0_1.length c0_1,.slice A0_2 l0_2.length c0_2,.slice (some ad257) l0_3.length c0_3] 33 (0,0)) (by exact kZ_ BK250) hb);have n1_:=aM_ (bT_ (by exact bZ_ HB) hb);have n2_:=aM_ (hbox);have n3_:=aM_ ((by rw [hg];exact (bS_ (by exact bZ_ HB)) : w.heap.size ≤ gb258));have n4_:=aM_ ((by rw [hg];exact (bS_ (by exact bZ_ HB)) : w.heap.size ≤ gb258));have n5_:=aM_ ((by rw [hg];exact Nat.ne_of_lt (blk_lt (g:=gb250) (o:=.cells #[.string a0_0,.slice A0_1 l0_1.length c0_1,.slice A0_2 l0_2.length c0_2,.slice (some ad257) l0_3.length c0_3] 33 (0,0)) (by exact kZ_ BK250)) : gb250 ≠ gb258));have n6_:=aM_ ((by rw [hg];exact Nat.ne_of_gt (blk_lt (g:=gb250) (o:=.cells #[.string a0_0,.slice A0_1 l0_1.length c0_1,.slice A0_2 l0_2.length c0_2,.slice (some ad257) l0_3.length c0_3] 33 (0,0)) (by exact kZ_ BK250)) : gb258 ≠ gb250));clear BK250;clear HB;have BK250:=n0_;have HB:=n1_;have BK258:=n2_;have GW258:=n3_;have GE258:=n4_;have NB250_258:=n5_;have NB258_250:=n6_;clear n0_ n1_ n2_ n3_ n4_ n5_ n6_;clear hb hbox hg;have hnb38:=NB258_250.out;have hnc38:=NB250_258.out;have hcz39_0 : w37.cell? ⟨gb258,0,none⟩ = some (.string (⟨#[]⟩ : ByteArray)):=(kC_ BK258.out 0).trans rfl;have hcz39_1 : w37.cell? ⟨gb258,1,none⟩ = some (.bool false):=(kC_ BK258.out 1).trans rfl;have hcz39_2 : w37.cell? ⟨gb258,2,none⟩ = some (.slice none 0 0):=(kC_ BK258.out 2).trans rfl;have hfz39_0:=kF_ BK258.out 0;have hfz39_1:=kF_ BK258.out 1;have hfz39_2:=kF_ BK258.out 2;have hcz40_0 : w37.cell? ⟨gb250,0,none⟩ = some (.string a0_0):=(kC_ BK250.out 0).trans rfl;have hcz40_1 : w37.cell? ⟨gb250,1,none⟩ = some (.slice A0_1 l0_1.length c0_1):=(kC_ BK250.out 1).trans rfl;have hcz40_2 : w37.cell? ⟨gb250,2,none⟩ = some (.slice A0_2 l0_2.length c0_2):=(kC_ BK250.out 2).trans rfl;have hcz40_3 : w37.cell? ⟨gb250,3,none⟩ = some (.slice (some ad257) l0_3.length c0_3):=(kC_ BK250.out 3).trans rfl;have hfz40_0:=kF_ BK250.out 0;have hfz40_1:=kF_ BK250.out 1;have hfz40_2:=kF_ BK250.out 2;have hfz40_3:=kF_ BK250.out 3) | ((with_reducible refine gate_callee (f:=22) rfl ?_);refine goesL_ (some 45) rfl rfl Tryd.func22 (by kernel_rfl) rfl #[.agg #[.string a0_0,.slice A0_1 l0_1.length c0_1,.slice A0_2 l0_2.length c0_2,.slice (some ad257) l0_3.length c0_3],.slice A257_2 ((rd_T50 l0_3 x38_2).f2).length c257_2] rfl (by (try simp only [mA_,mC_,mN_]);first | done | rfl | (simp only [lD_,lT_];rfl)) ?_;(with_reducible refine (impl_partsOk.calls k2 a0_0 _ _ l0_1 _ _ l0_2 _ _ l0_3 _ _ ((rd_T50 l0_3 x38_2).f2) true _ ?side1 ?side2 ?side3 ?side4 ?side5 ?side6 ?side7 ?side8 A35.out).mono ?_);(case side1=>exact Kd.C_below HR0_1.out (by exact bZ_ HB));(case side2=>exact HC0_1.out);(case side3=>exact Kd.C_below HR0_2.out (by exact bZ_ HB));(case side4=>exact HC0_2.out);(case side5=>exact Kd.C_below HR0_3.out (by exact bZ_ HB));(case side6=>exact HC0_3.out);(case side7=>exact Kd.C_below HR257_2.out (by exact bZ_ HB));(case side8=>exact HC257_2.out);rintro e w41 ⟨rfl,hb⟩;refine ⟨_,rfl,?_⟩;have n0_:=aM_ (blk_below (g:=gb250) (o:=.cells #[.string a0_0,.slice A0_1 l0_1.length c0_1,.slice A0_2 l0_2.length c0_2,.slice (some ad257) l0_3.length c0_3] 33 (0,0)) (by exact kW_ BK250) hb);have n1_:=aM_ (blk_below (g:=gb258) (o:=.cells #[.string ((rd_T50 l0_3 x38_2).f0),.bool ((rd_T50 l0_3 x38_2).f1),.slice A257_2 ((rd_T50 l0_3 x38_2).f2).length c257_2] 50 (0,0)) (by (with_reducible repeat (first | refine kN_ ?_ _ | refine kD_ ?_ | refine kA_ ?_ _));refine kP_ (cs:=#[.string ((rd_T50 l0_3 x38_2).f0),.bool ((rd_T50 l0_3 x38_2).f1),.slice none 0 0]) ?_ 2 _ rfl;(with_reducible repeat (first | refine kN_ ?_ _ | refine kD_ ?_ | refine kA_ ?_ _));refine kP_ (cs:=#[.string ((rd_T50 l0_3 x38_2).f0),.bool false,.slice none 0 0]) ?_ 1 _ rfl;(with_reducible repeat (first | refine kN_ ?_ _ | refine kD_ ?_ | refine kA_ ?_ _));refine kP_ (cs:=#[.string (⟨#[]⟩ : ByteArray),.bool false,.slice none 0 0]) ?_ 0 _ rfl;exact kZ_ BK258) hb);have n2_:=aM_ (bT_ (by exact bZ_ HB) hb);clear BK250;clear BK258;clear HB;have BK250:=n0_;have BK258:=n1_;have HB:=n2_;clear n0_ n1_ n2_;(try clear hb);(try clear hb2);(try clear hk);(try clear hi)))
              go_roundg k2
              case measure=>have:=HK1.out;have:=HK2.out;omega
              case rel=>exact ⟨(wrap64 (x38_2 + 1)),(by first | rfl | (simp;done) | (simp [*];done)),H', ⟨by have:=HK1.out;have:=HK2.out;omega⟩,⟨by exact kZ_ BK250⟩,⟨by exact bZ_ HB⟩⟩
             ·replace c36:=Bool.eq_false_iff.mpr c36
              subst c36
              have H1 : (some 5) = some r:=by rw [if_neg (show ¬ (false = true) by decide)] at H;exact H
              clear H
              have H:=H1
              clear H1
              obtain rfl:=Option.some.inj H
              have p257 : 0 ≤ (x38_2 : Int):=oT_ (by first | (with_reducible assumption) | assumption)
              have q257 : x38_2 < (l0_3.length : Int):=oT_ (by first | (with_reducible assumption) | assumption)
              obtain ⟨ad257,A257_2,c257_2,e257,hx257_0,hx257_1,hx257_2,hl257_2,hi257_2⟩:=at_T50 HR0_3.out x38_2 p257 q257
              cases e257
              replace hx257_0:=(HB.out.cell (wL_ w _ hx257_0)).trans hx257_0
              replace hx257_1:=(HB.out.cell (wL_ w _ hx257_1)).trans hx257_1
              replace hx257_2:=(HB.out.cell (wL_ w _ hx257_2)).trans hx257_2
              have HR257_2:=aM_ hi257_2
              have HC257_2:=aM_ hl257_2
              clear hi257_2 hl257_2
              replace p257:=eq_true p257
              replace q257:=eq_true q257
              go_wp2_with (first | ((with_reducible refine gate_dst (N:=6) rfl ?_);refine box_event ?hg (N:=6) ?hd (cs:=#[.string (⟨#[]⟩ : ByteArray),.bool false,.slice none 0 0]) (t:=50) ?hr ?_;(case hd=>rfl);(case hg=>rfl);(case hr=>first | (go_simp;done) | (go_simp;rfl));intro gb258 hg w42 hbox hb;have n0_:=aM_ (blk_below (g:=gb250) (o:=.cells #[.string a0_0,.slice A0_1 l0_1.length c0_1,.slice A0_2 l0_2.length c0_2,.slice (some ad257) l0_3.length c0_3] 33 (0,0)) (by exact kZ_ BK250) hb);have n1_:=aM_ (bT_ (by exact bZ_ HB) hb);have n2_:=aM_ (hbox);have n3_:=aM_ ((by rw [hg];exact (bS_ (by exact bZ_ HB)) : w.heap.size ≤ gb258));have n4_:=aM_ ((by rw [hg];exact (bS_ (by exact bZ_ HB)) : w.heap.size ≤ gb258));have n5_:=aM_ ((by rw [hg];exact Nat.ne_of_lt (blk_lt (g:=gb250) (o:=.cells #[.string a0_0,.slice A0_1 l0_1.length c0_1,.slice A0_2 l0_2.length c0_2,.slice (some ad257) l0_3.length c0_3] 33 (0,0)) (by exact kZ_ BK250)) : gb250 ≠ gb258));have n6_:=aM_ ((by rw [hg];exact Nat.ne_of_gt (blk_lt (g:=gb250) (o:=.cells #[.string a0_0,.slice A0_1 l0_1.length c0_1,.slice A0_2 l0_2.length c0_2,.slice (some ad257) l0_3.length c0_3] 33 (0,0)) (by exact kZ_ BK250)) : gb258 ≠ gb250));clear BK250;clear HB;have BK250:=n0_;have HB:=n1_;have BK258:=n2_;have GW258:=n3_;have GE258:=n4_;have NB250_258:=n5_;have NB258_250:=n6_;clear n0_ n1_ n2_ n3_ n4_ n5_ n6_;clear hb hbox hg;have hnb43:=NB258_250.out;have hnc43:=NB250_258.out;have hcz44_0 : w42.cell? ⟨gb258,0,none⟩ = some (.string (⟨#[]⟩ : ByteArray)):=(kC_ BK258.out 0).trans rfl;have hcz44_1 : w42.cell? ⟨gb258,1,none⟩ = some (.bool false):=(kC_ BK258.out 1).trans rfl;have hcz44_2 : w42.cell? ⟨gb258,2,none⟩ = some (.slice none 0 0):=(kC_ BK258.out 2).trans rfl;have hfz44_0:=kF_ BK258.out 0;have hfz44_1:=kF_ BK258.out 1;have hfz44_2:=kF_ BK258.out 2;have hcz45_0 : w42.cell? ⟨gb250,0,none⟩ = some (.string a0_0):=(kC_ BK250.out 0).trans rfl;have hcz45_1 : w42.cell? ⟨gb250,1,none⟩ = some (.slice A0_1 l0_1.length c0_1):=(kC_ BK250.out 1).trans rfl;have hcz45_2 : w42.cell? ⟨gb250,2,none⟩ = some (.slice A0_2 l0_2.length c0_2):=(kC_ BK250.out 2).trans rfl;have hcz45_3 : w42.cell? ⟨gb250,3,none⟩ = some (.slice (some ad257) l0_3.length c0_3):=(kC_ BK250.out 3).trans rfl;have hfz45_0:=kF_ BK250.out 0;have hfz45_1:=kF_ BK250.out 1;have hfz45_2:=kF_ BK250.out 2;have hfz45_3:=kF_ BK250.out 3) | ((with_reducible refine gate_callee (f:=22) rfl ?_);refine goesL_ (some 45) rfl rfl Tryd.func22 (by kernel_rfl) rfl #[.agg #[.string a0_0,.slice A0_1 l0_1.length c0_1,.slice A0_2 l0_2.length c0_2,.slice (some ad257) l0_3.length c0_3],.slice A257_2 ((rd_T50 l0_3 x38_2).f2).length c257_2] rfl (by (try simp only [mA_,mC_,mN_]);first | done | rfl | (simp only [lD_,lT_];rfl)) ?_;(with_reducible refine (impl_partsOk.calls k2 a0_0 _ _ l0_1 _ _ l0_2 _ _ l0_3 _ _ ((rd_T50 l0_3 x38_2).f2) false _ ?side1 ?side2 ?side3 ?side4 ?side5 ?side6 ?side7 ?side8 A35.out).mono ?_);(case side1=>exact Kd.C_below HR0_1.out (by exact bZ_ HB));(case side2=>exact HC0_1.out);(case side3=>exact Kd.C_below HR0_2.out (by exact bZ_ HB));(case side4=>exact HC0_2.out);(case side5=>exact Kd.C_below HR0_3.out (by exact bZ_ HB));(case side6=>exact HC0_3.out);(case side7=>exact Kd.C_below HR257_2.out (by exact bZ_ HB));(case side8=>exact HC257_2.out);rintro e w46 ⟨rfl,hb⟩;refine ⟨_,rfl,?_⟩;have n0_:=aM_ (blk_below (g:=gb250) (o:=.cells #[.string a0_0,.slice A0_1 l0_1.length c0_1,.slice A0_2 l0_2.length c0_2,.slice (some ad257) l0_3.length c0_3] 33 (0,0)) (by exact kW_ BK250) hb);have n1_:=aM_ (blk_below (g:=gb258) (o:=.cells #[.string ((rd_T50 l0_3 x38_2).f0),.bool ((rd_T50 l0_3 x38_2).f1),.slice A257_2 ((rd_T50 l0_3 x38_2).f2).length c257_2] 50 (0,0)) (by (with_reducible repeat (first | refine kN_ ?_ _ | refine kD_ ?_ | refine kA_ ?_ _));refine kP_ (cs:=#[.string ((rd_T50 l0_3 x38_2).f0),.bool ((rd_T50 l0_3 x38_2).f1),.slice none 0 0]) ?_ 2 _ rfl;(with_reducible repeat (first | refine kN_ ?_ _ | refine kD_ ?_ | refine kA_ ?_ _));refine kP_ (cs:=#[.string ((rd_T50 l0_3 x38_2).f0),.bool false,.slice none 0 0]) ?_ 1 _ rfl;(with_reducible repeat (first | refine kN_ ?_ _ | refine kD_ ?_ | refine kA_ ?_ _));refine kP_ (cs:=#[.string (⟨#[]⟩ : ByteArray),.bool false,.slice none 0 0]) ?_ 0 _ rfl;exact kZ_ BK258) hb);have n2_:=aM_ (bT_ (by exact bZ_ HB) hb);clear BK250;clear BK258;clear HB;have BK250:=n0_;have BK258:=n1_;have HB:=n2_;clear n0_ n1_ n2_;(try clear hb);(try clear hb2);(try clear hk);(try clear hi)))
              go_ret
              exact ⟨by first | rfl | (simp [errW_none,errW_some] <;> rfl) | (simp [*, errW_none,errW_some] <;> rfl),by exact bZ_ HB⟩
            ·rw [if_neg c34] at H
             exact absurd H (by simp)
           ·rw [if_neg c33] at H
            exact absurd H (by simp)
          ·rw [if_neg c32] at H
           have c32b0 : decide (x38_2 < (l0_3.length : Int)) = false:=decide_eq_false c32
           clear c32
           replace H:=oB_ H
           obtain ⟨t260,A470,H⟩:=H
           replace H : (if t260 = true then (impl_CheckDef.l2 k2 l0_2 (l0_2.length : Int) 0 a0_0 l0_1 l0_2 l0_3) else (some 5)) = some r:=H
           have A47:=aM_ A470
           clear A470
           by_cases c48 : t260 = true
           ·subst c48
            have H1 : (impl_CheckDef.l2 k2 l0_2 (l0_2.length : Int) 0 a0_0 l0_1 l0_2 l0_3) = some r:=by rw [if_pos rfl] at H;exact H
            clear H
            have H:=H1
            clear H1
            have H':=aM_ H
            clear H
            have hcz49_0 : wr.cell? ⟨gb250,0,none⟩ = some (.string a0_0):=(kC_ BK250.out 0).trans rfl
            have hcz49_1 : wr.cell? ⟨gb250,1,none⟩ = some (.slice A0_1 l0_1.length c0_1):=(kC_ BK250.out 1).trans rfl
            have hcz49_2 : wr.cell? ⟨gb250,2,none⟩ = some (.slice A0_2 l0_2.length c0_2):=(kC_ BK250.out 2).trans rfl
            have hcz49_3 : wr.cell? ⟨gb250,3,none⟩ = some (.slice A0_3 l0_3.length c0_3):=(kC_ BK250.out 3).trans rfl
            have hfz49_0:=kF_ BK250.out 0
            have hfz49_1:=kF_ BK250.out 1
            have hfz49_2:=kF_ BK250.out 2
            have hfz49_3:=kF_ BK250.out 3
            go_wp2_with (first | ((with_reducible refine gate_callee (f:=22) rfl ?_);refine goesL_ (some 51) rfl rfl Tryd.func22 (by kernel_rfl) rfl #[.agg #[.string a0_0,.slice A0_1 l0_1.length c0_1,.slice A0_2 l0_2.length c0_2,.slice A0_3 l0_3.length c0_3],.slice A0_2 l0_2.length c0_2] rfl (by (try simp only [mA_,mC_,mN_]);first | done | rfl | (simp only [lD_,lT_];rfl)) ?_;(with_reducible refine (impl_partsOk.calls k2 a0_0 _ _ l0_1 _ _ l0_2 _ _ l0_3 _ _ l0_2 true _ ?side1 ?side2 ?side3 ?side4 ?side5 ?side6 ?side7 ?side8 A47.out).mono ?_);(case side1=>repeat (first | exact (Kd.C_below HR0_1.out HB.out) | (with_reducible refine cA_ ?_ _) | (with_reducible refine cN_ ?_ _) | (with_reducible refine cD_ ?_)));(case side2=>exact HC0_1.out);(case side3=>repeat (first | exact (Kd.C_below HR0_2.out HB.out) | (with_reducible refine cA_ ?_ _) | (with_reducible refine cN_ ?_ _) | (with_reducible refine cD_ ?_)));(case side4=>exact HC0_2.out);(case side5=>repeat (first | exact (Kd.C_below HR0_3.out HB.out) | (with_reducible refine cA_ ?_ _) | (with_reducible refine cN_ ?_ _) | (with_reducible refine cD_ ?_)));(case side6=>exact HC0_3.out);(case side7=>repeat (first | exact (Kd.C_below HR0_2.out HB.out) | (with_reducible refine cA_ ?_ _) | (with_reducible refine cN_ ?_ _) | (with_reducible refine cD_ ?_)));(case side8=>exact HC0_2.out);rintro e w50 ⟨rfl,hb⟩;refine ⟨_,rfl,?_⟩;have n0_:=aM_ (blk_below (g:=gb250) (o:=.cells #[.string a0_0,.slice A0_1 l0_1.length c0_1,.slice A0_2 l0_2.length c0_2,.slice A0_3 l0_3.length c0_3] 33 (0,0)) (by exact kZ_ BK250) hb);have n1_:=aM_ (bT_ (by exact bZ_ HB) hb);clear BK250;clear HB;have BK250:=n0_;have HB:=n1_;clear n0_ n1_;(try clear hb);(try clear hb2);(try clear hk);(try clear hi);have hcz51_0 : w50.cell? ⟨gb250,0,none⟩ = some (.string a0_0):=(kC_ BK250.out 0).trans rfl;have hcz51_1 : w50.cell? ⟨gb250,1,none⟩ = some (.slice A0_1 l0_1.length c0_1):=(kC_ BK250.out 1).trans rfl;have hcz51_2 : w50.cell? ⟨gb250,2,none⟩ = some (.slice A0_2 l0_2.length c0_2):=(kC_ BK250.out 2).trans rfl;have hcz51_3 : w50.cell? ⟨gb250,3,none⟩ = some (.slice A0_3 l0_3.length c0_3):=(kC_ BK250.out 3).trans rfl;have hfz51_0:=kF_ BK250.out 0;have hfz51_1:=kF_ BK250.out 1;have hfz51_2:=kF_ BK250.out 2;have hfz51_3:=kF_ BK250.out 3))
            (try simp only [Act.put,sI_,sS_,sZ_])
            go_loopg [56] k2 (fun kq v56 w'=>∃ (x56_3 : Int),v56 = .int .i64 x56_3 ∧ Aside0 (impl_CheckDef.l2 kq l0_2 (l0_2.length : Int) x56_3 a0_0 l0_1 l0_2 l0_3 = some r) ∧ Aside0 (kq ≤ k2) ∧ Aside0 (w'.heap[gb250]? = some (.cells #[.string a0_0,(.slice A0_1 l0_1.length c0_1),(.slice A0_2 l0_2.length c0_2),(.slice A0_3 l0_3.length c0_3)] 33 (0,0))) ∧ Aside0 (Below w.heap.size w w'))
            case atStart=>exact ⟨(0),(by first | rfl | (simp;done) | (simp [*];done)),H', ⟨Nat.le_refl _⟩,⟨by exact kZ_ BK250⟩,⟨by exact bZ_ HB⟩⟩
            case round =>
             clear H'
             try clear c1
             try clear c2
             try clear p2
             try clear q2
             try clear hx2
             try clear c3
             try clear c4
             try clear c5
             try clear p6
             try clear c7
             try clear c10
             try clear c10b0
             try clear c11
             try clear c11b0
             try clear c12
             try clear c12b0
             try clear c14
             try clear c16
             try clear c19
             try clear c20
             try clear c21
             try clear c22
             try clear c25
             try clear c25b0
             try clear c25b1
             try clear p25
             try clear q25
             try clear hx25
             try clear c32
             try clear c32b0
             try clear c33
             try clear c33b0
             try clear c34
             try clear c34b0
             try clear c36
             try clear c38
             try clear c43
             try clear c48
             try clear hcz17_0
             try clear hcz17_1
             try clear hcz17_2
             try clear hcz20_0
             try clear hcz20_1
             try clear hcz20_2
             try clear hcz23_0
             try clear hcz23_1
             try clear hcz23_2
             try clear hcz23_3
             try clear hcz26_0
             try clear hcz26_1
             try clear hcz26_2
             try clear hcz26_3
             try clear hcz28_0
             try clear hcz28_1
             try clear hcz28_2
             try clear hcz28_3
             try clear hcz29_0
             try clear hcz29_1
             try clear hcz29_2
             try clear hcz29_3
             try clear hcz31_0
             try clear hcz31_1
             try clear hcz31_2
             try clear hcz31_3
             try clear hcz39_0
             try clear hcz39_1
             try clear hcz39_2
             try clear hcz40_0
             try clear hcz40_1
             try clear hcz40_2
             try clear hcz40_3
             try clear hcz44_0
             try clear hcz44_1
             try clear hcz44_2
             try clear hcz45_0
             try clear hcz45_1
             try clear hcz45_2
             try clear hcz45_3
             try clear hcz49_0
             try clear hcz49_1
             try clear hcz49_2
             try clear hcz49_3
             try clear hcz51_0
             try clear hcz51_1
             try clear hcz51_2
             try clear hcz51_3
             try clear hcz7_0
             try clear hcz7_1
             try clear hcz7_2
             try clear hcz7_3
             try clear hcz9_0
             try clear hcz9_1
             try clear hcz9_2
             try clear hcz9_3
             try clear hfz17_0
             try clear hfz17_1
             try clear hfz17_2
             try clear hfz20_0
             try clear hfz20_1
             try clear hfz20_2
             try clear hfz23_0
             try clear hfz23_1
             try clear hfz23_2
             try clear hfz23_3
             try clear hfz26_0
             try clear hfz26_1
             try clear hfz26_2
             try clear hfz26_3
             try clear hfz28_0
             try clear hfz28_1
             try clear hfz28_2
             try clear hfz28_3
             try clear hfz29_0
             try clear hfz29_1
             try clear hfz29_2
             try clear hfz29_3
             try clear hfz31_0
             try clear hfz31_1
             try clear hfz31_2
             try clear hfz31_3
             try clear hfz39_0
             try clear hfz39_1
             try clear hfz39_2
             try clear hfz40_0
             try clear hfz40_1
             try clear hfz40_2
             try clear hfz40_3
             try clear hfz44_0
             try clear hfz44_1
             try clear hfz44_2
             try clear hfz45_0
             try clear hfz45_1
             try clear hfz45_2
             try clear hfz45_3
             try clear hfz49_0
             try clear hfz49_1
             try clear hfz49_2
             try clear hfz49_3
             try clear hfz51_0
             try clear hfz51_1
             try clear hfz51_2
             try clear hfz51_3
             try clear hfz7_0
             try clear hfz7_1
             try clear hfz7_2
             try clear hfz7_3
             try clear hfz9_0
             try clear hfz9_1
             try clear hfz9_2
             try clear hfz9_3
             try clear hx253_0
             try clear hx253_1
             try clear hx253_2
             try clear hx257_0
             try clear hx257_1
             try clear hx257_2
             try clear p2
             try clear p25
             try clear p253
             try clear p257
             try clear p6
             try clear q2
             try clear q25
             try clear q253
             try clear q257
             obtain ⟨x56_3,rfl,HA,HK3,BK250,HB⟩:=hrel
             cases gk with
             | zero=>exact absurd HA.out (by simp [impl_CheckDef.l2])
             | succ k3 =>
              have H:=HA.out
              clear HA
              simp only [impl_CheckDef.l2] at H
              by_cases c52 : x56_3 < (l0_2.length : Int)
              ·rw [if_pos c52] at H
               have c52b0 : decide (x56_3 < (l0_2.length : Int)) = true:=decide_eq_true c52
               clear c52
               by_cases c53 : 0 ≤ x56_3
               ·rw [if_pos c53] at H
                have c53b0 : decide (0 ≤ x56_3) = true:=decide_eq_true c53
                clear c53
                by_cases c54 : x56_3 < (l0_2.length : Int)
                ·rw [if_pos c54] at H
                 have c54b0 : decide (x56_3 < (l0_2.length : Int)) = true:=decide_eq_true c54
                 clear c54
                 by_cases c55 : 0 ≤ ((rd_T44 l0_2 x56_3).f0)
                 ·rw [if_pos c55] at H
                  have c55b0 : decide (0 ≤ ((rd_T44 l0_2 x56_3).f0)) = true:=decide_eq_true c55
                  clear c55
                  by_cases c56 : ((rd_T44 l0_2 x56_3).f0) < (l0_1.length : Int)
                  ·rw [if_pos c56] at H
                   have c56b0 : decide (((rd_T44 l0_2 x56_3).f0) < (l0_1.length : Int)) = true:=decide_eq_true c56
                   clear c56
                   obtain ⟨bq57,hbq57⟩ : ∃ b_ : Bool,b_ = ((rd_T42 l0_1 ((rd_T44 l0_2 x56_3).f0)).f2):=⟨_,rfl⟩
                   replace H : (if bq57 = true then (some 4) else (impl_CheckDef.l2 k3 l0_2 (l0_2.length : Int) (wrap64 (x56_3 + 1)) a0_0 l0_1 l0_2 l0_3)) = some r:=by rw [← hbq57] at H;exact H
                   have Nbq57:=aM_ hbq57
                   clear hbq57
                   by_cases c58 : bq57 = true
                   ·subst c58
                    have H1 : (some 4) = some r:=by rw [if_pos rfl] at H;exact H
                    clear H
                    have H:=H1
                    clear H1
                    obtain rfl:=Option.some.inj H
                    have p261 : 0 ≤ (x56_3 : Int):=oT_ (by first | (with_reducible assumption) | assumption)
                    have q261 : x56_3 < (l0_2.length : Int):=oT_ (by first | (with_reducible assumption) | assumption)
                    obtain ⟨ad261,e261,hx261_0,hx261_1⟩:=at_T44 HR0_2.out x56_3 p261 q261
                    (try rw [← Nbq57.out] at hx261_1)
                    cases e261
                    replace hx261_0:=(HB.out.cell (wL_ w _ hx261_0)).trans hx261_0
                    replace hx261_1:=(HB.out.cell (wL_ w _ hx261_1)).trans hx261_1
                    replace p261:=eq_true p261
                    replace q261:=eq_true q261
                    go_wp2_with (first | ((with_reducible refine gate_dst (N:=8) rfl ?_);refine box_event ?hg (N:=8) ?hd (cs:=#[.int .i64 0,.bool false]) (t:=44) ?hr ?_;(case hd=>rfl);(case hg=>rfl);(case hr=>first | (go_simp;done) | (go_simp;rfl));intro gb262 hg w59 hbox hb;have n0_:=aM_ (blk_below (g:=gb250) (o:=.cells #[.string a0_0,.slice A0_1 l0_1.length c0_1,.slice (some ad261) l0_2.length c0_2,.slice A0_3 l0_3.length c0_3] 33 (0,0)) (by exact kZ_ BK250) hb);have n1_:=aM_ (bT_ (by exact bZ_ HB) hb);have n2_:=aM_ (hbox);have n3_:=aM_ ((by rw [hg];exact (bS_ (by exact bZ_ HB)) : w.heap.size ≤ gb262));have n4_:=aM_ ((by rw [hg];exact (bS_ (by exact bZ_ HB)) : w.heap.size ≤ gb262));have n5_:=aM_ ((by rw [hg];exact Nat.ne_of_lt (blk_lt (g:=gb250) (o:=.cells #[.string a0_0,.slice A0_1 l0_1.length c0_1,.slice (some ad261) l0_2.length c0_2,.slice A0_3 l0_3.length c0_3] 33 (0,0)) (by exact kZ_ BK250)) : gb250 ≠ gb262));have n6_:=aM_ ((by rw [hg];exact Nat.ne_of_gt (blk_lt (g:=gb250) (o:=.cells #[.string a0_0,.slice A0_1 l0_1.length c0_1,.slice (some ad261) l0_2.length c0_2,.slice A0_3 l0_3.length c0_3] 33 (0,0)) (by exact kZ_ BK250)) : gb262 ≠ gb250));clear BK250;clear HB;have BK250:=n0_;have HB:=n1_;have BK262:=n2_;have GW262:=n3_;have GE262:=n4_;have NB250_262:=n5_;have NB262_250:=n6_;clear n0_ n1_ n2_ n3_ n4_ n5_ n6_;clear hb hbox hg;have hnb60:=NB262_250.out;have hnc60:=NB250_262.out;have hcz61_0 : w59.cell? ⟨gb262,0,none⟩ = some (.int .i64 0):=(kC_ BK262.out 0).trans rfl;have hcz61_1 : w59.cell? ⟨gb262,1,none⟩ = some (.bool false):=(kC_ BK262.out 1).trans rfl;have hfz61_0:=kF_ BK262.out 0;have hfz61_1:=kF_ BK262.out 1;have hcz62_0 : w59.cell? ⟨gb250,0,none⟩ = some (.string a0_0):=(kC_ BK250.out 0).trans rfl;have hcz62_1 : w59.cell? ⟨gb250,1,none⟩ = some (.slice A0_1 l0_1.length c0_1):=(kC_ BK250.out 1).trans rfl;have hcz62_2 : w59.cell? ⟨gb250,2,none⟩ = some (.slice (some ad261) l0_2.length c0_2):=(kC_ BK250.out 2).trans rfl;have hcz62_3 : w59.cell? ⟨gb250,3,none⟩ = some (.slice A0_3 l0_3.length c0_3):=(kC_ BK250.out 3).trans rfl;have hfz62_0:=kF_ BK250.out 0;have hfz62_1:=kF_ BK250.out 1;have hfz62_2:=kF_ BK250.out 2;have hfz62_3:=kF_ BK250.out 3;have p263 : 0 ≤ (((rd_T44 l0_2 x56_3).f0) : Int):=oT_ (by first | (with_reducible assumption) | assumption);have q263 : ((rd_T44 l0_2 x56_3).f0) < (l0_1.length : Int):=oT_ (by first | (with_reducible assumption) | assumption);obtain ⟨ad263,e263,hx263_0,hx263_1,hx263_2⟩:=at_T42 HR0_1.out ((rd_T44 l0_2 x56_3).f0) p263 q263;(try rw [← Nbq57.out] at hx263_2);cases e263;have hn263_0 : ad263.block ≠ gb262:=Nat.ne_of_lt (Nat.lt_of_lt_of_le (by have:=wL_ _ _ hx263_0;first | rwa [add_block] at this | exact this) GW262.out);have hn263_1 : ad263.block ≠ gb262:=Nat.ne_of_lt (Nat.lt_of_lt_of_le (by have:=wL_ _ _ hx263_0;first | rwa [add_block] at this | exact this) GW262.out);replace hx263_0:=(HB.out.cell (wL_ w _ hx263_0)).trans hx263_0;replace hx263_1:=(HB.out.cell (wL_ w _ hx263_1)).trans hx263_1;replace hx263_2:=(HB.out.cell (wL_ w _ hx263_2)).trans hx263_2;replace hx263_0:=(cell_far (p:=⟨gb262,0,none⟩) (by first | (rw [add_block];exact hn263_0) | (show (Addr.add _ _).block ≠ _;rw [add_block];exact hn263_0) | exact hn263_0) (.int .i64 ((rd_T44 l0_2 x56_3).f0))).trans hx263_0;replace hx263_1:=(cell_far (p:=⟨gb262,0,none⟩) (by first | (rw [add_block];exact hn263_0) | (show (Addr.add _ _).block ≠ _;rw [add_block];exact hn263_0) | exact hn263_0) (.int .i64 ((rd_T44 l0_2 x56_3).f0))).trans hx263_1;replace hx263_2:=(cell_far (p:=⟨gb262,0,none⟩) (by first | (rw [add_block];exact hn263_0) | (show (Addr.add _ _).block ≠ _;rw [add_block];exact hn263_0) | exact hn263_0) (.int .i64 ((rd_T44 l0_2 x56_3).f0))).trans hx263_2;replace hx263_0:=(cell_far (p:=⟨gb262,1,none⟩) (by first | (rw [add_block];exact hn263_1) | (show (Addr.add _ _).block ≠ _;rw [add_block];exact hn263_1) | exact hn263_1) (.bool ((rd_T44 l0_2 x56_3).f1))).trans hx263_0;replace hx263_1:=(cell_far (p:=⟨gb262,1,none⟩) (by first | (rw [add_block];exact hn263_1) | (show (Addr.add _ _).block ≠ _;rw [add_block];exact hn263_1) | exact hn263_1) (.bool ((rd_T44 l0_2 x56_3).f1))).trans hx263_1;replace hx263_2:=(cell_far (p:=⟨gb262,1,none⟩) (by first | (rw [add_block];exact hn263_1) | (show (Addr.add _ _).block ≠ _;rw [add_block];exact hn263_1) | exact hn263_1) (.bool ((rd_T44 l0_2 x56_3).f1))).trans hx263_2;clear hn263_0;clear hn263_1;replace p263:=eq_true p263;replace q263:=eq_true q263))
                    go_ret
                    exact ⟨by first | rfl | (simp [errW_none,errW_some] <;> rfl) | (simp [*, errW_none,errW_some] <;> rfl),by exact bZ_ HB⟩
                   ·replace c58:=Bool.eq_false_iff.mpr c58
                    subst c58
                    have H1 : (impl_CheckDef.l2 k3 l0_2 (l0_2.length : Int) (wrap64 (x56_3 + 1)) a0_0 l0_1 l0_2 l0_3) = some r:=by rw [if_neg (show ¬ (false = true) by decide)] at H;exact H
                    clear H
                    have H:=H1
                    clear H1
                    have H':=aM_ H
                    clear H
                    have p261 : 0 ≤ (x56_3 : Int):=oT_ (by first | (with_reducible assumption) | assumption)
                    have q261 : x56_3 < (l0_2.length : Int):=oT_ (by first | (with_reducible assumption) | assumption)
                    obtain ⟨ad261,e261,hx261_0,hx261_1⟩:=at_T44 HR0_2.out x56_3 p261 q261
                    (try rw [← Nbq57.out] at hx261_1)
                    cases e261
                    replace hx261_0:=(HB.out.cell (wL_ w _ hx261_0)).trans hx261_0
                    replace hx261_1:=(HB.out.cell (wL_ w _ hx261_1)).trans hx261_1
                    replace p261:=eq_true p261
                    replace q261:=eq_true q261
                    go_wp2_with (first | ((with_reducible refine gate_dst (N:=8) rfl ?_);refine box_event ?hg (N:=8) ?hd (cs:=#[.int .i64 0,.bool false]) (t:=44) ?hr ?_;(case hd=>rfl);(case hg=>rfl);(case hr=>first | (go_simp;done) | (go_simp;rfl));intro gb262 hg w63 hbox hb;have n0_:=aM_ (blk_below (g:=gb250) (o:=.cells #[.string a0_0,.slice A0_1 l0_1.length c0_1,.slice (some ad261) l0_2.length c0_2,.slice A0_3 l0_3.length c0_3] 33 (0,0)) (by exact kZ_ BK250) hb);have n1_:=aM_ (bT_ (by exact bZ_ HB) hb);have n2_:=aM_ (hbox);have n3_:=aM_ ((by rw [hg];exact (bS_ (by exact bZ_ HB)) : w.heap.size ≤ gb262));have n4_:=aM_ ((by rw [hg];exact (bS_ (by exact bZ_ HB)) : w.heap.size ≤ gb262));have n5_:=aM_ ((by rw [hg];exact Nat.ne_of_lt (blk_lt (g:=gb250) (o:=.cells #[.string a0_0,.slice A0_1 l0_1.length c0_1,.slice (some ad261) l0_2.length c0_2,.slice A0_3 l0_3.length c0_3] 33 (0,0)) (by exact kZ_ BK250)) : gb250 ≠ gb262));have n6_:=aM_ ((by rw [hg];exact Nat.ne_of_gt (blk_lt (g:=gb250) (o:=.cells #[.string a0_0,.slice A0_1 l0_1.length c0_1,.slice (some ad261) l0_2.length c0_2,.slice A0_3 l0_3.length c0_3] 33 (0,0)) (by exact kZ_ BK250)) : gb262 ≠ gb250));clear BK250;clear HB;have BK250:=n0_;have HB:=n1_;have BK262:=n2_;have GW262:=n3_;have GE262:=n4_;have NB250_262:=n5_;have NB262_250:=n6_;clear n0_ n1_ n2_ n3_ n4_ n5_ n6_;clear hb hbox hg;have hnb64:=NB262_250.out;have hnc64:=NB250_262.out;have hcz65_0 : w63.cell? ⟨gb262,0,none⟩ = some (.int .i64 0):=(kC_ BK262.out 0).trans rfl;have hcz65_1 : w63.cell? ⟨gb262,1,none⟩ = some (.bool false):=(kC_ BK262.out 1).trans rfl;have hfz65_0:=kF_ BK262.out 0;have hfz65_1:=kF_ BK262.out 1;have hcz66_0 : w63.cell? ⟨gb250,0,none⟩ = some (.string a0_0):=(kC_ BK250.out 0).trans rfl;have hcz66_1 : w63.cell? ⟨gb250,1,none⟩ = some (.slice A0_1 l0_1.length c0_1):=(kC_ BK250.out 1).trans rfl;have hcz66_2 : w63.cell? ⟨gb250,2,none⟩ = some (.slice (some ad261) l0_2.length c0_2):=(kC_ BK250.out 2).trans rfl;have hcz66_3 : w63.cell? ⟨gb250,3,none⟩ = some (.slice A0_3 l0_3.length c0_3):=(kC_ BK250.out 3).trans rfl;have hfz66_0:=kF_ BK250.out 0;have hfz66_1:=kF_ BK250.out 1;have hfz66_2:=kF_ BK250.out 2;have hfz66_3:=kF_ BK250.out 3;have p263 : 0 ≤ (((rd_T44 l0_2 x56_3).f0) : Int):=oT_ (by first | (with_reducible assumption) | assumption);have q263 : ((rd_T44 l0_2 x56_3).f0) < (l0_1.length : Int):=oT_ (by first | (with_reducible assumption) | assumption);obtain ⟨ad263,e263,hx263_0,hx263_1,hx263_2⟩:=at_T42 HR0_1.out ((rd_T44 l0_2 x56_3).f0) p263 q263;(try rw [← Nbq57.out] at hx263_2);cases e263;have hn263_0 : ad263.block ≠ gb262:=Nat.ne_of_lt (Nat.lt_of_lt_of_le (by have:=wL_ _ _ hx263_0;first | rwa [add_block] at this | exact this) GW262.out);have hn263_1 : ad263.block ≠ gb262:=Nat.ne_of_lt (Nat.lt_of_lt_of_le (by have:=wL_ _ _ hx263_0;first | rwa [add_block] at this | exact this) GW262.out);replace hx263_0:=(HB.out.cell (wL_ w _ hx263_0)).trans hx263_0;replace hx263_1:=(HB.out.cell (wL_ w _ hx263_1)).trans hx263_1;replace hx263_2:=(HB.out.cell (wL_ w _ hx263_2)).trans hx263_2;replace hx263_0:=(cell_far (p:=⟨gb262,0,none⟩) (by first | (rw [add_block];exact hn263_0) | (show (Addr.add _ _).block ≠ _;rw [add_block];exact hn263_0) | exact hn263_0) (.int .i64 ((rd_T44 l0_2 x56_3).f0))).trans hx263_0;replace hx263_1:=(cell_far (p:=⟨gb262,0,none⟩) (by first | (rw [add_block];exact hn263_0) | (show (Addr.add _ _).block ≠ _;rw [add_block];exact hn263_0) | exact hn263_0) (.int .i64 ((rd_T44 l0_2 x56_3).f0))).trans hx263_1;replace hx263_2:=(cell_far (p:=⟨gb262,0,none⟩) (by first | (rw [add_block];exact hn263_0) | (show (Addr.add _ _).block ≠ _;rw [add_block];exact hn263_0) | exact hn263_0) (.int .i64 ((rd_T44 l0_2 x56_3).f0))).trans hx263_2;replace hx263_0:=(cell_far (p:=⟨gb262,1,none⟩) (by first | (rw [add_block];exact hn263_1) | (show (Addr.add _ _).block ≠ _;rw [add_block];exact hn263_1) | exact hn263_1) (.bool ((rd_T44 l0_2 x56_3).f1))).trans hx263_0;replace hx263_1:=(cell_far (p:=⟨gb262,1,none⟩) (by first | (rw [add_block];exact hn263_1) | (show (Addr.add _ _).block ≠ _;rw [add_block];exact hn263_1) | exact hn263_1) (.bool ((rd_T44 l0_2 x56_3).f1))).trans hx263_1;replace hx263_2:=(cell_far (p:=⟨gb262,1,none⟩) (by first | (rw [add_block];exact hn263_1) | (show (Addr.add _ _).block ≠ _;rw [add_block];exact hn263_1) | exact hn263_1) (.bool ((rd_T44 l0_2 x56_3).f1))).trans hx263_2;clear hn263_0;clear hn263_1;replace p263:=eq_true p263;replace q263:=eq_true q263))
                    go_roundg k3
                    case measure=>have:=HK1.out;have:=HK2.out;have:=HK3.out;omega
                    case rel=>exact ⟨(wrap64 (x56_3 + 1)),(by first | rfl | (simp;done) | (simp [*];done)),H', ⟨by have:=HK1.out;have:=HK2.out;have:=HK3.out;omega⟩,⟨by exact kW_ BK250⟩,⟨by exact bZ_ HB⟩⟩
                  ·rw [if_neg c56] at H
                   exact absurd H (by simp)
                 ·rw [if_neg c55] at H
                  exact absurd H (by simp)
                ·rw [if_neg c54] at H
                 exact absurd H (by simp)
               ·rw [if_neg c53] at H
                exact absurd H (by simp)
              ·rw [if_neg c52] at H
               have c52b0 : decide (x56_3 < (l0_2.length : Int)) = false:=decide_eq_false c52
               clear c52
               obtain rfl:=Option.some.inj H
               go_wp2
               go_ret
               exact ⟨by first | rfl | (simp [errW_none,errW_some] <;> rfl) | (simp [*, errW_none,errW_some] <;> rfl),by exact bZ_ HB⟩
           ·replace c48:=Bool.eq_false_iff.mpr c48
            subst c48
            have H1 : (some 5) = some r:=by rw [if_neg (show ¬ (false = true) by decide)] at H;exact H
            clear H
            have H:=H1
            clear H1
            obtain rfl:=Option.some.inj H
            have hcz67_0 : wr.cell? ⟨gb250,0,none⟩ = some (.string a0_0):=(kC_ BK250.out 0).trans rfl
            have hcz67_1 : wr.cell? ⟨gb250,1,none⟩ = some (.slice A0_1 l0_1.length c0_1):=(kC_ BK250.out 1).trans rfl
            have hcz67_2 : wr.cell? ⟨gb250,2,none⟩ = some (.slice A0_2 l0_2.length c0_2):=(kC_ BK250.out 2).trans rfl
            have hcz67_3 : wr.cell? ⟨gb250,3,none⟩ = some (.slice A0_3 l0_3.length c0_3):=(kC_ BK250.out 3).trans rfl
            have hfz67_0:=kF_ BK250.out 0
            have hfz67_1:=kF_ BK250.out 1
            have hfz67_2:=kF_ BK250.out 2
            have hfz67_3:=kF_ BK250.out 3
            go_wp2_with (first | ((with_reducible refine gate_callee (f:=22) rfl ?_);refine goesL_ (some 51) rfl rfl Tryd.func22 (by kernel_rfl) rfl #[.agg #[.string a0_0,.slice A0_1 l0_1.length c0_1,.slice A0_2 l0_2.length c0_2,.slice A0_3 l0_3.length c0_3],.slice A0_2 l0_2.length c0_2] rfl (by (try simp only [mA_,mC_,mN_]);first | done | rfl | (simp only [lD_,lT_];rfl)) ?_;(with_reducible refine (impl_partsOk.calls k2 a0_0 _ _ l0_1 _ _ l0_2 _ _ l0_3 _ _ l0_2 false _ ?side1 ?side2 ?side3 ?side4 ?side5 ?side6 ?side7 ?side8 A47.out).mono ?_);(case side1=>repeat (first | exact (Kd.C_below HR0_1.out HB.out) | (with_reducible refine cA_ ?_ _) | (with_reducible refine cN_ ?_ _) | (with_reducible refine cD_ ?_)));(case side2=>exact HC0_1.out);(case side3=>repeat (first | exact (Kd.C_below HR0_2.out HB.out) | (with_reducible refine cA_ ?_ _) | (with_reducible refine cN_ ?_ _) | (with_reducible refine cD_ ?_)));(case side4=>exact HC0_2.out);(case side5=>repeat (first | exact (Kd.C_below HR0_3.out HB.out) | (with_reducible refine cA_ ?_ _) | (with_reducible refine cN_ ?_ _) | (with_reducible refine cD_ ?_)));(case side6=>exact HC0_3.out);(case side7=>repeat (first | exact (Kd.C_below HR0_2.out HB.out) | (with_reducible refine cA_ ?_ _) | (with_reducible refine cN_ ?_ _) | (with_reducible refine cD_ ?_)));(case side8=>exact HC0_2.out);rintro e w68 ⟨rfl,hb⟩;refine ⟨_,rfl,?_⟩;have n0_:=aM_ (blk_below (g:=gb250) (o:=.cells #[.string a0_0,.slice A0_1 l0_1.length c0_1,.slice A0_2 l0_2.length c0_2,.slice A0_3 l0_3.length c0_3] 33 (0,0)) (by exact kZ_ BK250) hb);have n1_:=aM_ (bT_ (by exact bZ_ HB) hb);clear BK250;clear HB;have BK250:=n0_;have HB:=n1_;clear n0_ n1_;(try clear hb);(try clear hb2);(try clear hk);(try clear hi)))
            go_ret
            exact ⟨by first | rfl | (simp [errW_none,errW_some] <;> rfl) | (simp [*, errW_none,errW_some] <;> rfl),by exact bZ_ HB⟩
  ·replace c5:=Bool.eq_false_iff.mpr c5
   subst c5
   have H1 : (some 2) = some r:=by rw [if_neg (show ¬ (false = true) by decide)] at H;exact H
   clear H
   have H:=H1
   clear H1
   obtain rfl:=Option.some.inj H
   go_enter Tryd.func7,Tryd.ntmps7
   go_wp2_with (first | ((with_reducible refine gate_dst (N:=1) rfl ?_);refine box_event ?hg (N:=1) ?hd (cs:=#[.string a0_0,.slice A0_1 l0_1.length c0_1,.slice A0_2 l0_2.length c0_2,.slice A0_3 l0_3.length c0_3]) (t:=33) ?hr ?_;(case hd=>rfl);(case hg=>rfl);(case hr=>first | (go_simp;done) | (go_simp;rfl));intro gb250 hg w69 hbox hb;have n0_:=aM_ (bT_ (by exact bZ_ HB) hb);have n1_:=aM_ (hbox);have n2_:=aM_ ((by rw [hg];exact (bS_ (by exact bZ_ HB)) : w.heap.size ≤ gb250));have n3_:=aM_ ((by rw [hg];exact (bS_ (by exact bZ_ HB)) : w.heap.size ≤ gb250));clear HB;have HB:=n0_;have BK250:=n1_;have GW250:=n2_;have GE250:=n3_;clear n0_ n1_ n2_ n3_;clear hb hbox hg;have hcz70_0 : w69.cell? ⟨gb250,0,none⟩ = some (.string a0_0):=(kC_ BK250.out 0).trans rfl;have hcz70_1 : w69.cell? ⟨gb250,1,none⟩ = some (.slice A0_1 l0_1.length c0_1):=(kC_ BK250.out 1).trans rfl;have hcz70_2 : w69.cell? ⟨gb250,2,none⟩ = some (.slice A0_2 l0_2.length c0_2):=(kC_ BK250.out 2).trans rfl;have hcz70_3 : w69.cell? ⟨gb250,3,none⟩ = some (.slice A0_3 l0_3.length c0_3):=(kC_ BK250.out 3).trans rfl;have hfz70_0:=kF_ BK250.out 0;have hfz70_1:=kF_ BK250.out 1;have hfz70_2:=kF_ BK250.out 2;have hfz70_3:=kF_ BK250.out 3) | ((with_reducible refine gate_callee (f:=19) rfl ?_);refine goesL_ (some 10) rfl rfl Tryd.func19 (by kernel_rfl) rfl #[.agg #[.string a0_0,.slice A0_1 l0_1.length c0_1,.slice A0_2 l0_2.length c0_2,.slice A0_3 l0_3.length c0_3]] rfl (by (try simp only [mA_,mC_,mN_]);first | done | rfl | (simp only [lD_,lT_];rfl)) ?_;(with_reducible refine (impl_namesOk.calls k a0_0 _ _ l0_1 _ _ l0_2 _ _ l0_3 true _ ?side1 ?side2 ?side3 ?side4 ?side5 ?side6 A2.out).mono ?_);(case side1=>repeat (first | exact (Kd.C_below HR0_1.out HB.out) | (with_reducible refine cA_ ?_ _) | (with_reducible refine cN_ ?_ _) | (with_reducible refine cD_ ?_)));(case side2=>exact HC0_1.out);(case side3=>repeat (first | exact (Kd.C_below HR0_2.out HB.out) | (with_reducible refine cA_ ?_ _) | (with_reducible refine cN_ ?_ _) | (with_reducible refine cD_ ?_)));(case side4=>exact HC0_2.out);(case side5=>repeat (first | exact (Kd.C_below HR0_3.out HB.out) | (with_reducible refine cA_ ?_ _) | (with_reducible refine cN_ ?_ _) | (with_reducible refine cD_ ?_)));(case side6=>exact HC0_3.out);rintro e w71 ⟨rfl,hb⟩;refine ⟨_,rfl,?_⟩;have n0_:=aM_ (blk_below (g:=gb250) (o:=.cells #[.string a0_0,.slice A0_1 l0_1.length c0_1,.slice A0_2 l0_2.length c0_2,.slice A0_3 l0_3.length c0_3] 33 (0,0)) (by exact kZ_ BK250) hb);have n1_:=aM_ (bT_ (by exact bZ_ HB) hb);clear BK250;clear HB;have BK250:=n0_;have HB:=n1_;clear n0_ n1_;(try clear hb);(try clear hb2);(try clear hk);(try clear hi);have hcz72_0 : w71.cell? ⟨gb250,0,none⟩ = some (.string a0_0):=(kC_ BK250.out 0).trans rfl;have hcz72_1 : w71.cell? ⟨gb250,1,none⟩ = some (.slice A0_1 l0_1.length c0_1):=(kC_ BK250.out 1).trans rfl;have hcz72_2 : w71.cell? ⟨gb250,2,none⟩ = some (.slice A0_2 l0_2.length c0_2):=(kC_ BK250.out 2).trans rfl;have hcz72_3 : w71.cell? ⟨gb250,3,none⟩ = some (.slice A0_3 l0_3.length c0_3):=(kC_ BK250.out 3).trans rfl;have hfz72_0:=kF_ BK250.out 0;have hfz72_1:=kF_ BK250.out 1;have hfz72_2:=kF_ BK250.out 2;have hfz72_3:=kF_ BK250.out 3) | ((with_reducible refine gate_callee (f:=20) rfl ?_);refine goesL_ (some 15) rfl rfl Tryd.func20 (by kernel_rfl) rfl #[.int .i64 (l0_1.length : Int),.int .i64 1,.int .i64 6] rfl (by (try simp only [mA_,mC_,mN_]);first | done | rfl | (simp only [lD_,lT_];rfl)) ?_;(with_reducible refine (impl_in.calls (l0_1.length : Int) 1 6 false _ A4.out).mono ?_);rintro e w' ⟨rfl,⟨nd,rfl⟩⟩;refine ⟨_,rfl,?_⟩))
   go_ret
   exact ⟨by first | rfl | (simp [errW_none,errW_some] <;> rfl) | (simp [*, errW_none,errW_some] <;> rfl),by exact bZ_ HB⟩
 ·replace c3:=Bool.eq_false_iff.mpr c3
  subst c3
  have H1 : (some 1) = some r:=by rw [if_neg (show ¬ (false = true) by decide)] at H;exact H
  clear H
  have H:=H1
  clear H1
  obtain rfl:=Option.some.inj H
  go_enter Tryd.func7,Tryd.ntmps7
  go_wp2_with (first | ((with_reducible refine gate_dst (N:=1) rfl ?_);refine box_event ?hg (N:=1) ?hd (cs:=#[.string a0_0,.slice A0_1 l0_1.length c0_1,.slice A0_2 l0_2.length c0_2,.slice A0_3 l0_3.length c0_3]) (t:=33) ?hr ?_;(case hd=>rfl);(case hg=>rfl);(case hr=>first | (go_simp;done) | (go_simp;rfl));intro gb250 hg w73 hbox hb;have n0_:=aM_ (bT_ (by exact bZ_ HB) hb);have n1_:=aM_ (hbox);have n2_:=aM_ ((by rw [hg];exact (bS_ (by exact bZ_ HB)) : w.heap.size ≤ gb250));have n3_:=aM_ ((by rw [hg];exact (bS_ (by exact bZ_ HB)) : w.heap.size ≤ gb250));clear HB;have HB:=n0_;have BK250:=n1_;have GW250:=n2_;have GE250:=n3_;clear n0_ n1_ n2_ n3_;clear hb hbox hg;have hcz74_0 : w73.cell? ⟨gb250,0,none⟩ = some (.string a0_0):=(kC_ BK250.out 0).trans rfl;have hcz74_1 : w73.cell? ⟨gb250,1,none⟩ = some (.slice A0_1 l0_1.length c0_1):=(kC_ BK250.out 1).trans rfl;have hcz74_2 : w73.cell? ⟨gb250,2,none⟩ = some (.slice A0_2 l0_2.length c0_2):=(kC_ BK250.out 2).trans rfl;have hcz74_3 : w73.cell? ⟨gb250,3,none⟩ = some (.slice A0_3 l0_3.length c0_3):=(kC_ BK250.out 3).trans rfl;have hfz74_0:=kF_ BK250.out 0;have hfz74_1:=kF_ BK250.out 1;have hfz74_2:=kF_ BK250.out 2;have hfz74_3:=kF_ BK250.out 3) | ((with_reducible refine gate_callee (f:=19) rfl ?_);refine goesL_ (some 10) rfl rfl Tryd.func19 (by kernel_rfl) rfl #[.agg #[.string a0_0,.slice A0_1 l0_1.length c0_1,.slice A0_2 l0_2.length c0_2,.slice A0_3 l0_3.length c0_3]] rfl (by (try simp only [mA_,mC_,mN_]);first | done | rfl | (simp only [lD_,lT_];rfl)) ?_;(with_reducible refine (impl_namesOk.calls k a0_0 _ _ l0_1 _ _ l0_2 _ _ l0_3 false _ ?side1 ?side2 ?side3 ?side4 ?side5 ?side6 A2.out).mono ?_);(case side1=>repeat (first | exact (Kd.C_below HR0_1.out HB.out) | (with_reducible refine cA_ ?_ _) | (with_reducible refine cN_ ?_ _) | (with_reducible refine cD_ ?_)));(case side2=>exact HC0_1.out);(case side3=>repeat (first | exact (Kd.C_below HR0_2.out HB.out) | (with_reducible refine cA_ ?_ _) | (with_reducible refine cN_ ?_ _) | (with_reducible refine cD_ ?_)));(case side4=>exact HC0_2.out);(case side5=>repeat (first | exact (Kd.C_below HR0_3.out HB.out) | (with_reducible refine cA_ ?_ _) | (with_reducible refine cN_ ?_ _) | (with_reducible refine cD_ ?_)));(case side6=>exact HC0_3.out);rintro e w75 ⟨rfl,hb⟩;refine ⟨_,rfl,?_⟩;have n0_:=aM_ (blk_below (g:=gb250) (o:=.cells #[.string a0_0,.slice A0_1 l0_1.length c0_1,.slice A0_2 l0_2.length c0_2,.slice A0_3 l0_3.length c0_3] 33 (0,0)) (by exact kZ_ BK250) hb);have n1_:=aM_ (bT_ (by exact bZ_ HB) hb);clear BK250;clear HB;have BK250:=n0_;have HB:=n1_;clear n0_ n1_;(try clear hb);(try clear hb2);(try clear hk);(try clear hi)))
  go_ret
  exact ⟨by first | rfl | (simp [errW_none,errW_some] <;> rfl) | (simp [*, errW_none,errW_some] <;> rfl),by exact bZ_ HB⟩
def laws_eqCol.f (a0_0 : ByteArray) (a0_1 : Int) (a0_2 : Bool) (a1_0 : ByteArray) (a1_1 : Int) (a1_2 : Bool) : Option (Bool):=if a0_0.toList = a1_0.toList then (if a0_1 = a1_1 then (if (a0_2 != a1_2) = true then (some false) else (some true)) else (some false)) else (some false)
set_option maxHeartbeats 8000000 in
set_option maxRecDepth 100000 in
theorem laws_eqCol.calls (a0_0 : ByteArray) (a0_1 : Int) (a0_2 : Bool) (a1_0 : ByteArray) (a1_1 : Int) (a1_2 : Bool) (r : Bool) (w : World) (h : laws_eqCol.f a0_0 a0_1 a0_2 a1_0 a1_1 a1_2 = some r) :
  Calls Tryd.prog 36 #[.agg #[.string a0_0,.int .i64 a0_1,.bool a0_2],.agg #[.string a1_0,.int .i64 a1_1,.bool a1_2]] w fun e w'=>e = .returned (.bool r) ∧ Below w.heap.size w w':=by
 have hu42:=Tryd.underlying42
 have HB:=aM_ (Below.refl w.heap.size w)
 have H : (if a0_0.toList = a1_0.toList then (if a0_1 = a1_1 then (if (a0_2 != a1_2) = true then (some false) else (some true)) else (some false)) else (some false)) = some r:=h
 clear h
 by_cases c3 : a0_0.toList = a1_0.toList
 ·rw [if_pos c3] at H
  have c3b0 : (a0_0.toList == a1_0.toList) = true:=beq_iff_eq.mpr c3
  have c3b1 : (a0_0.toList != a1_0.toList) = false:=bne_eq_false_iff_eq.mpr c3
  clear c3
  by_cases c4 : a0_1 = a1_1
  ·rw [if_pos c4] at H
   have c4b0 : (a0_1 == a1_1) = true:=beq_iff_eq.mpr c4
   have c4b1 : (a0_1 != a1_1) = false:=bne_eq_false_iff_eq.mpr c4
   clear c4
   by_cases c5 : (a0_2 != a1_2) = true
   ·rw [if_pos c5] at H
    have c5b0 : (a0_2 != a1_2) = true:=c5
    (try (have c5b1 : decide (a0_2 = a1_2) = false:=by simpa using c5))
    (try (have c5b2 : (a0_2 == a1_2) = false:=by simpa using c5))
    (try (have c5b3 : ¬ (a0_2 = a1_2):=by simpa using c5))
    clear c5
    obtain rfl:=Option.some.inj H
    go_enter Tryd.func36,Tryd.ntmps36
    go_wp2_with (first | ((with_reducible refine gate_dst (N:=2) rfl ?_);refine box_event ?hg (N:=2) ?hd (cs:=#[.string a0_0,.int .i64 a0_1,.bool a0_2]) (t:=42) ?hr ?_;(case hd=>rfl);(case hg=>rfl);(case hr=>first | (go_simp;done) | (go_simp;rfl));intro gb264 hg w6 hbox hb;have n0_:=aM_ (bT_ (by exact bZ_ HB) hb);have n1_:=aM_ (hbox);have n2_:=aM_ ((by rw [hg];exact (bS_ (by exact bZ_ HB)) : w.heap.size ≤ gb264));have n3_:=aM_ ((by rw [hg];exact (bS_ (by exact bZ_ HB)) : w.heap.size ≤ gb264));clear HB;have HB:=n0_;have BK264:=n1_;have GW264:=n2_;have GE264:=n3_;clear n0_ n1_ n2_ n3_;clear hb hbox hg) | ((with_reducible refine gate_dst (N:=3) rfl ?_);refine box_event ?hg (N:=3) ?hd (cs:=#[.string a1_0,.int .i64 a1_1,.bool a1_2]) (t:=42) ?hr ?_;(case hd=>rfl);(case hg=>rfl);(case hr=>first | (go_simp;done) | (go_simp;rfl));intro gb265 hg w7 hbox hb;have n0_:=aM_ (blk_below (g:=gb264) (o:=.cells #[.string a0_0,.int .i64 a0_1,.bool a0_2] 42 (0,0)) (by exact kZ_ BK264) hb);have n1_:=aM_ (bT_ (by exact bZ_ HB) hb);have n2_:=aM_ (hbox);have n3_:=aM_ ((by rw [hg];exact (bS_ (by exact bZ_ HB)) : w.heap.size ≤ gb265));have n4_:=aM_ ((by rw [hg];exact (bS_ (by exact bZ_ HB)) : w.heap.size ≤ gb265));have n5_:=aM_ ((by rw [hg];exact Nat.ne_of_lt (blk_lt (g:=gb264) (o:=.cells #[.string a0_0,.int .i64 a0_1,.bool a0_2] 42 (0,0)) (by exact kZ_ BK264)) : gb264 ≠ gb265));have n6_:=aM_ ((by rw [hg];exact Nat.ne_of_gt (blk_lt (g:=gb264) (o:=.cells #[.string a0_0,.int .i64 a0_1,.bool a0_2] 42 (0,0)) (by exact kZ_ BK264)) : gb265 ≠ gb264));clear BK264;clear HB;have BK264:=n0_;have HB:=n1_;have BK265:=n2_;have GW265:=n3_;have GE265:=n4_;have NB264_265:=n5_;have NB265_264:=n6_;clear n0_ n1_ n2_ n3_ n4_ n5_ n6_;clear hb hbox hg;have hnb8:=NB264_265.out;have hnc8:=NB265_264.out;have hcz9_0 : w7.cell? ⟨gb264,0,none⟩ = some (.string a0_0):=(kC_ BK264.out 0).trans rfl;have hcz9_1 : w7.cell? ⟨gb264,1,none⟩ = some (.int .i64 a0_1):=(kC_ BK264.out 1).trans rfl;have hcz9_2 : w7.cell? ⟨gb264,2,none⟩ = some (.bool a0_2):=(kC_ BK264.out 2).trans rfl;have hfz9_0:=kF_ BK264.out 0;have hfz9_1:=kF_ BK264.out 1;have hfz9_2:=kF_ BK264.out 2;have hcz10_0 : w7.cell? ⟨gb265,0,none⟩ = some (.string a1_0):=(kC_ BK265.out 0).trans rfl;have hcz10_1 : w7.cell? ⟨gb265,1,none⟩ = some (.int .i64 a1_1):=(kC_ BK265.out 1).trans rfl;have hcz10_2 : w7.cell? ⟨gb265,2,none⟩ = some (.bool a1_2):=(kC_ BK265.out 2).trans rfl;have hfz10_0:=kF_ BK265.out 0;have hfz10_1:=kF_ BK265.out 1;have hfz10_2:=kF_ BK265.out 2))
    go_ret
    exact ⟨by first | rfl | (simp [errW_none,errW_some] <;> rfl) | (simp [*, errW_none,errW_some] <;> rfl),by exact bZ_ HB⟩
   ·rw [if_neg c5] at H
    have c5b0 : (a0_2 != a1_2) = false:=by simpa using c5
    (try (have c5b1 : decide (a0_2 = a1_2) = true:=by simpa using c5))
    (try (have c5b2 : (a0_2 == a1_2) = true:=by simpa using c5))
    clear c5
    obtain rfl:=Option.some.inj H
    go_enter Tryd.func36,Tryd.ntmps36
    go_wp2_with (first | ((with_reducible refine gate_dst (N:=2) rfl ?_);refine box_event ?hg (N:=2) ?hd (cs:=#[.string a0_0,.int .i64 a0_1,.bool a0_2]) (t:=42) ?hr ?_;(case hd=>rfl);(case hg=>rfl);(case hr=>first | (go_simp;done) | (go_simp;rfl));intro gb264 hg w11 hbox hb;have n0_:=aM_ (bT_ (by exact bZ_ HB) hb);have n1_:=aM_ (hbox);have n2_:=aM_ ((by rw [hg];exact (bS_ (by exact bZ_ HB)) : w.heap.size ≤ gb264));have n3_:=aM_ ((by rw [hg];exact (bS_ (by exact bZ_ HB)) : w.heap.size ≤ gb264));clear HB;have HB:=n0_;have BK264:=n1_;have GW264:=n2_;have GE264:=n3_;clear n0_ n1_ n2_ n3_;clear hb hbox hg) | ((with_reducible refine gate_dst (N:=3) rfl ?_);refine box_event ?hg (N:=3) ?hd (cs:=#[.string a1_0,.int .i64 a1_1,.bool a1_2]) (t:=42) ?hr ?_;(case hd=>rfl);(case hg=>rfl);(case hr=>first | (go_simp;done) | (go_simp;rfl));intro gb265 hg w12 hbox hb;have n0_:=aM_ (blk_below (g:=gb264) (o:=.cells #[.string a0_0,.int .i64 a0_1,.bool a0_2] 42 (0,0)) (by exact kZ_ BK264) hb);have n1_:=aM_ (bT_ (by exact bZ_ HB) hb);have n2_:=aM_ (hbox);have n3_:=aM_ ((by rw [hg];exact (bS_ (by exact bZ_ HB)) : w.heap.size ≤ gb265));have n4_:=aM_ ((by rw [hg];exact (bS_ (by exact bZ_ HB)) : w.heap.size ≤ gb265));have n5_:=aM_ ((by rw [hg];exact Nat.ne_of_lt (blk_lt (g:=gb264) (o:=.cells #[.string a0_0,.int .i64 a0_1,.bool a0_2] 42 (0,0)) (by exact kZ_ BK264)) : gb264 ≠ gb265));have n6_:=aM_ ((by rw [hg];exact Nat.ne_of_gt (blk_lt (g:=gb264) (o:=.cells #[.string a0_0,.int .i64 a0_1,.bool a0_2] 42 (0,0)) (by exact kZ_ BK264)) : gb265 ≠ gb264));clear BK264;clear HB;have BK264:=n0_;have HB:=n1_;have BK265:=n2_;have GW265:=n3_;have GE265:=n4_;have NB264_265:=n5_;have NB265_264:=n6_;clear n0_ n1_ n2_ n3_ n4_ n5_ n6_;clear hb hbox hg;have hnb13:=NB264_265.out;have hnc13:=NB265_264.out;have hcz14_0 : w12.cell? ⟨gb264,0,none⟩ = some (.string a0_0):=(kC_ BK264.out 0).trans rfl;have hcz14_1 : w12.cell? ⟨gb264,1,none⟩ = some (.int .i64 a0_1):=(kC_ BK264.out 1).trans rfl;have hcz14_2 : w12.cell? ⟨gb264,2,none⟩ = some (.bool a0_2):=(kC_ BK264.out 2).trans rfl;have hfz14_0:=kF_ BK264.out 0;have hfz14_1:=kF_ BK264.out 1;have hfz14_2:=kF_ BK264.out 2;have hcz15_0 : w12.cell? ⟨gb265,0,none⟩ = some (.string a1_0):=(kC_ BK265.out 0).trans rfl;have hcz15_1 : w12.cell? ⟨gb265,1,none⟩ = some (.int .i64 a1_1):=(kC_ BK265.out 1).trans rfl;have hcz15_2 : w12.cell? ⟨gb265,2,none⟩ = some (.bool a1_2):=(kC_ BK265.out 2).trans rfl;have hfz15_0:=kF_ BK265.out 0;have hfz15_1:=kF_ BK265.out 1;have hfz15_2:=kF_ BK265.out 2))
    go_ret
    exact ⟨by first | rfl | (simp [errW_none,errW_some] <;> rfl) | (simp [*, errW_none,errW_some] <;> rfl),by exact bZ_ HB⟩
  ·rw [if_neg c4] at H
   have c4b0 : (a0_1 == a1_1) = false:=beq_eq_false_iff_ne.mpr c4
   have c4b1 : (a0_1 != a1_1) = true:=bne_iff_ne.mpr c4
   obtain rfl:=Option.some.inj H
   go_enter Tryd.func36,Tryd.ntmps36
   go_wp2_with (first | ((with_reducible refine gate_dst (N:=2) rfl ?_);refine box_event ?hg (N:=2) ?hd (cs:=#[.string a0_0,.int .i64 a0_1,.bool a0_2]) (t:=42) ?hr ?_;(case hd=>rfl);(case hg=>rfl);(case hr=>first | (go_simp;done) | (go_simp;rfl));intro gb264 hg w16 hbox hb;have n0_:=aM_ (bT_ (by exact bZ_ HB) hb);have n1_:=aM_ (hbox);have n2_:=aM_ ((by rw [hg];exact (bS_ (by exact bZ_ HB)) : w.heap.size ≤ gb264));have n3_:=aM_ ((by rw [hg];exact (bS_ (by exact bZ_ HB)) : w.heap.size ≤ gb264));clear HB;have HB:=n0_;have BK264:=n1_;have GW264:=n2_;have GE264:=n3_;clear n0_ n1_ n2_ n3_;clear hb hbox hg) | ((with_reducible refine gate_dst (N:=3) rfl ?_);refine box_event ?hg (N:=3) ?hd (cs:=#[.string a1_0,.int .i64 a1_1,.bool a1_2]) (t:=42) ?hr ?_;(case hd=>rfl);(case hg=>rfl);(case hr=>first | (go_simp;done) | (go_simp;rfl));intro gb265 hg w17 hbox hb;have n0_:=aM_ (blk_below (g:=gb264) (o:=.cells #[.string a0_0,.int .i64 a0_1,.bool a0_2] 42 (0,0)) (by exact kZ_ BK264) hb);have n1_:=aM_ (bT_ (by exact bZ_ HB) hb);have n2_:=aM_ (hbox);have n3_:=aM_ ((by rw [hg];exact (bS_ (by exact bZ_ HB)) : w.heap.size ≤ gb265));have n4_:=aM_ ((by rw [hg];exact (bS_ (by exact bZ_ HB)) : w.heap.size ≤ gb265));have n5_:=aM_ ((by rw [hg];exact Nat.ne_of_lt (blk_lt (g:=gb264) (o:=.cells #[.string a0_0,.int .i64 a0_1,.bool a0_2] 42 (0,0)) (by exact kZ_ BK264)) : gb264 ≠ gb265));have n6_:=aM_ ((by rw [hg];exact Nat.ne_of_gt (blk_lt (g:=gb264) (o:=.cells #[.string a0_0,.int .i64 a0_1,.bool a0_2] 42 (0,0)) (by exact kZ_ BK264)) : gb265 ≠ gb264));clear BK264;clear HB;have BK264:=n0_;have HB:=n1_;have BK265:=n2_;have GW265:=n3_;have GE265:=n4_;have NB264_265:=n5_;have NB265_264:=n6_;clear n0_ n1_ n2_ n3_ n4_ n5_ n6_;clear hb hbox hg;have hnb18:=NB264_265.out;have hnc18:=NB265_264.out;have hcz19_0 : w17.cell? ⟨gb264,0,none⟩ = some (.string a0_0):=(kC_ BK264.out 0).trans rfl;have hcz19_1 : w17.cell? ⟨gb264,1,none⟩ = some (.int .i64 a0_1):=(kC_ BK264.out 1).trans rfl;have hcz19_2 : w17.cell? ⟨gb264,2,none⟩ = some (.bool a0_2):=(kC_ BK264.out 2).trans rfl;have hfz19_0:=kF_ BK264.out 0;have hfz19_1:=kF_ BK264.out 1;have hfz19_2:=kF_ BK264.out 2;have hcz20_0 : w17.cell? ⟨gb265,0,none⟩ = some (.string a1_0):=(kC_ BK265.out 0).trans rfl;have hcz20_1 : w17.cell? ⟨gb265,1,none⟩ = some (.int .i64 a1_1):=(kC_ BK265.out 1).trans rfl;have hcz20_2 : w17.cell? ⟨gb265,2,none⟩ = some (.bool a1_2):=(kC_ BK265.out 2).trans rfl;have hfz20_0:=kF_ BK265.out 0;have hfz20_1:=kF_ BK265.out 1;have hfz20_2:=kF_ BK265.out 2))
   go_ret
   exact ⟨by first | rfl | (simp [errW_none,errW_some] <;> rfl) | (simp [*, errW_none,errW_some] <;> rfl),by exact bZ_ HB⟩
 ·rw [if_neg c3] at H
  have c3b0 : (a0_0.toList == a1_0.toList) = false:=beq_eq_false_iff_ne.mpr c3
  have c3b1 : (a0_0.toList != a1_0.toList) = true:=bne_iff_ne.mpr c3
  obtain rfl:=Option.some.inj H
  go_enter Tryd.func36,Tryd.ntmps36
  go_wp2_with (first | ((with_reducible refine gate_dst (N:=2) rfl ?_);refine box_event ?hg (N:=2) ?hd (cs:=#[.string a0_0,.int .i64 a0_1,.bool a0_2]) (t:=42) ?hr ?_;(case hd=>rfl);(case hg=>rfl);(case hr=>first | (go_simp;done) | (go_simp;rfl));intro gb264 hg w21 hbox hb;have n0_:=aM_ (bT_ (by exact bZ_ HB) hb);have n1_:=aM_ (hbox);have n2_:=aM_ ((by rw [hg];exact (bS_ (by exact bZ_ HB)) : w.heap.size ≤ gb264));have n3_:=aM_ ((by rw [hg];exact (bS_ (by exact bZ_ HB)) : w.heap.size ≤ gb264));clear HB;have HB:=n0_;have BK264:=n1_;have GW264:=n2_;have GE264:=n3_;clear n0_ n1_ n2_ n3_;clear hb hbox hg) | ((with_reducible refine gate_dst (N:=3) rfl ?_);refine box_event ?hg (N:=3) ?hd (cs:=#[.string a1_0,.int .i64 a1_1,.bool a1_2]) (t:=42) ?hr ?_;(case hd=>rfl);(case hg=>rfl);(case hr=>first | (go_simp;done) | (go_simp;rfl));intro gb265 hg w22 hbox hb;have n0_:=aM_ (blk_below (g:=gb264) (o:=.cells #[.string a0_0,.int .i64 a0_1,.bool a0_2] 42 (0,0)) (by exact kZ_ BK264) hb);have n1_:=aM_ (bT_ (by exact bZ_ HB) hb);have n2_:=aM_ (hbox);have n3_:=aM_ ((by rw [hg];exact (bS_ (by exact bZ_ HB)) : w.heap.size ≤ gb265));have n4_:=aM_ ((by rw [hg];exact (bS_ (by exact bZ_ HB)) : w.heap.size ≤ gb265));have n5_:=aM_ ((by rw [hg];exact Nat.ne_of_lt (blk_lt (g:=gb264) (o:=.cells #[.string a0_0,.int .i64 a0_1,.bool a0_2] 42 (0,0)) (by exact kZ_ BK264)) : gb264 ≠ gb265));have n6_:=aM_ ((by rw [hg];exact Nat.ne_of_gt (blk_lt (g:=gb264) (o:=.cells #[.string a0_0,.int .i64 a0_1,.bool a0_2] 42 (0,0)) (by exact kZ_ BK264)) : gb265 ≠ gb264));clear BK264;clear HB;have BK264:=n0_;have HB:=n1_;have BK265:=n2_;have GW265:=n3_;have GE265:=n4_;have NB264_265:=n5_;have NB265_264:=n6_;clear n0_ n1_ n2_ n3_ n4_ n5_ n6_;clear hb hbox hg;have hnb23:=NB264_265.out;have hnc23:=NB265_264.out;have hcz24_0 : w22.cell? ⟨gb264,0,none⟩ = some (.string a0_0):=(kC_ BK264.out 0).trans rfl;have hcz24_1 : w22.cell? ⟨gb264,1,none⟩ = some (.int .i64 a0_1):=(kC_ BK264.out 1).trans rfl;have hcz24_2 : w22.cell? ⟨gb264,2,none⟩ = some (.bool a0_2):=(kC_ BK264.out 2).trans rfl;have hfz24_0:=kF_ BK264.out 0;have hfz24_1:=kF_ BK264.out 1;have hfz24_2:=kF_ BK264.out 2;have hcz25_0 : w22.cell? ⟨gb265,0,none⟩ = some (.string a1_0):=(kC_ BK265.out 0).trans rfl;have hcz25_1 : w22.cell? ⟨gb265,1,none⟩ = some (.int .i64 a1_1):=(kC_ BK265.out 1).trans rfl;have hcz25_2 : w22.cell? ⟨gb265,2,none⟩ = some (.bool a1_2):=(kC_ BK265.out 2).trans rfl;have hfz25_0:=kF_ BK265.out 0;have hfz25_1:=kF_ BK265.out 1;have hfz25_2:=kF_ BK265.out 2))
  go_ret
  exact ⟨by first | rfl | (simp [errW_none,errW_some] <;> rfl) | (simp [*, errW_none,errW_some] <;> rfl),by exact bZ_ HB⟩
end Go.Proofs.YtllgmgpfdnofmaaDoor.PFnExactCheckDef
