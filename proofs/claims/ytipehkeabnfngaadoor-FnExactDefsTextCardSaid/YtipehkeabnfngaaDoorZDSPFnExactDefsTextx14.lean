import Derived.Test.YtipehkeabnfngaaDoorZDSPFnExactDefsTextx0
import Derived.Test.YtipehkeabnfngaaDoorZDSPFnExactDefsTextx11
import Derived.Test.YtipehkeabnfngaaDoorZDSPFnExactDefsTextx12
import Derived.Test.YtipehkeabnfngaaDoorZDSPFnExactDefsTextx13
import Derived.Test.YtipehkeabnfngaaDoorZDSShelf
namespace Go.Proofs.YtipehkeabnfngaaDoor.PFnExactDefsText
open Go.RowKit Go.Proofs.YtipehkeabnfngaaDoorW.PrintWords Go.Proofs.YtipehkeabnfngaaDoorW.PrintLast Go.Proofs.YtipehkeabnfngaaDoorW.PrintMore Go.Proofs.YtipehkeabnfngaaDoor.Xtra
attribute [local go_sem] max2_int min2_int max_two min_two max_three min_three max_four min_four str_leq str_gtr str_geq setCell_drewN cell_set2 cell_set3   -- for this text's walks alone
set_option linter.unusedVariables false
set_option linter.unusedSimpArgs false
mutual
def impl_CheckDef.l0 : Nat → List (S82) → Int → Int → ByteArray → List (S82) → List (S85) → List (S69) → Option (Int)
 | 0,_,_,_,_,_,_,_=>none
 | k + 1,x18,x19,x20,x319000,x319001,x319002,x319003=>if x20 < x19 then (if 0 ≤ x20 then (if x20 < (x18.length : Int) then ((impl_in.f ((rd_T82 x18 x20).f1) 1 4).bind fun t323=>(if t323 = true then (impl_CheckDef.l0 k x18 x19 (wrap64 (x20 + 1)) x319000 x319001 x319002 x319003) else (some 2))) else (none)) else (none)) else ((impl_twice.f k x319000 x319001 x319002 x319003).bind fun t324=>(if t324 = true then (some 3) else (if (x319003.length : Int) > 2 then (some 6) else (impl_CheckDef.l1 k x319003 (x319003.length : Int) 0 x319000 x319001 x319002 x319003))))
def impl_CheckDef.l1 : Nat → List (S69) → Int → Int → ByteArray → List (S82) → List (S85) → List (S69) → Option (Int)
 | 0,_,_,_,_,_,_,_=>none
 | k + 1,x36,x37,x38,x319000,x319001,x319002,x319003=>if x38 < x37 then (if 0 ≤ x38 then (if x38 < (x36.length : Int) then ((impl_partsOk.f k x319000 x319001 x319002 x319003 ((rd_T69 x36 x38).f2)).bind fun t327=>(if t327 = true then (impl_CheckDef.l1 k x36 x37 (wrap64 (x38 + 1)) x319000 x319001 x319002 x319003) else (some 5))) else (none)) else (none)) else ((impl_partsOk.f k x319000 x319001 x319002 x319003 x319002).bind fun t328=>(if t328 = true then (impl_CheckDef.l2 k x319002 (x319002.length : Int) 0 x319000 x319001 x319002 x319003) else (some 5)))
def impl_CheckDef.l2 : Nat → List (S85) → Int → Int → ByteArray → List (S82) → List (S85) → List (S69) → Option (Int)
 | 0,_,_,_,_,_,_,_=>none
 | k + 1,x54,x55,x56,x319000,x319001,x319002,x319003=>if x56 < x55 then (if 0 ≤ x56 then (if x56 < (x54.length : Int) then (if 0 ≤ ((rd_T85 x54 x56).f0) then (if ((rd_T85 x54 x56).f0) < (x319001.length : Int) then (if (rd_T82 x319001 ((rd_T85 x54 x56).f0)).f2 = true then (some 4) else (impl_CheckDef.l2 k x54 x55 (wrap64 (x56 + 1)) x319000 x319001 x319002 x319003)) else (none)) else (none)) else (none)) else (none)) else (some 0)
end
def impl_CheckDef.f (k : Nat) (a0_0 : ByteArray) (l0_1 : List (S82)) (l0_2 : List (S85)) (l0_3 : List (S69)) : Option (Int):=(impl_namesOk.f k a0_0 l0_1 l0_2 l0_3).bind fun t319=>(if t319 = true then ((impl_in.f (l0_1.length : Int) 1 6).bind fun t320=>(if t320 = true then (impl_CheckDef.l0 k l0_1 (l0_1.length : Int) 0 a0_0 l0_1 l0_2 l0_3) else (some 2))) else (some 1))
theorem impl_CheckDef.mono_l : ∀ k,(∀ y0 y1 y2 y3 y4 y5 y6,LeO (impl_CheckDef.l0 k y0 y1 y2 y3 y4 y5 y6) (impl_CheckDef.l0 (k + 1) y0 y1 y2 y3 y4 y5 y6)) ∧ (∀ y0 y1 y2 y3 y4 y5 y6,LeO (impl_CheckDef.l1 k y0 y1 y2 y3 y4 y5 y6) (impl_CheckDef.l1 (k + 1) y0 y1 y2 y3 y4 y5 y6)) ∧ (∀ y0 y1 y2 y3 y4 y5 y6,LeO (impl_CheckDef.l2 k y0 y1 y2 y3 y4 y5 y6) (impl_CheckDef.l2 (k + 1) y0 y1 y2 y3 y4 y5 y6))
 | 0=>⟨fun _ _ _ _ _ _ _ r h=>by simp [impl_CheckDef.l0] at h,fun _ _ _ _ _ _ _ r h=>by simp [impl_CheckDef.l1] at h,fun _ _ _ _ _ _ _ r h=>by simp [impl_CheckDef.l2] at h⟩
 | k + 1=>by
  obtain ⟨ih0,ih1,ih2⟩:=impl_CheckDef.mono_l k
  refine ⟨?_,?_,?_⟩
  ·intro y0 y1 y2 y3 y4 y5 y6
   unfold impl_CheckDef.l0
   repeat' first
   | (with_reducible exact ih0 _ _ _ _ _ _ _)
   | (with_reducible exact ih1 _ _ _ _ _ _ _)
   | (with_reducible exact ih2 _ _ _ _ _ _ _)
   | (with_reducible exact impl_namesOk.mono _ _ _ _ _)
   | (with_reducible exact impl_partsOk.mono _ _ _ _ _ _)
   | (with_reducible exact impl_twice.mono _ _ _ _ _)
   | (with_reducible exact LeO.refl _)
   | (with_reducible exact LeO.none _)
   | (with_reducible refine LeO.ite ?_ ?_)
   | (with_reducible refine LeO.bind ?_ (fun _=>?_))
   | exact ih0 _ _ _ _ _ _ _
   | exact ih1 _ _ _ _ _ _ _
   | exact ih2 _ _ _ _ _ _ _
   | exact impl_namesOk.mono _ _ _ _ _
   | exact impl_partsOk.mono _ _ _ _ _ _
   | exact impl_twice.mono _ _ _ _ _
   | exact LeO.none _
   | refine LeO.ite ?_ ?_
   | refine LeO.bind ?_ (fun _=>?_)
  ·intro y0 y1 y2 y3 y4 y5 y6
   unfold impl_CheckDef.l1
   repeat' first
   | (with_reducible exact ih0 _ _ _ _ _ _ _)
   | (with_reducible exact ih1 _ _ _ _ _ _ _)
   | (with_reducible exact ih2 _ _ _ _ _ _ _)
   | (with_reducible exact impl_namesOk.mono _ _ _ _ _)
   | (with_reducible exact impl_partsOk.mono _ _ _ _ _ _)
   | (with_reducible exact impl_twice.mono _ _ _ _ _)
   | (with_reducible exact LeO.refl _)
   | (with_reducible exact LeO.none _)
   | (with_reducible refine LeO.ite ?_ ?_)
   | (with_reducible refine LeO.bind ?_ (fun _=>?_))
   | exact ih0 _ _ _ _ _ _ _
   | exact ih1 _ _ _ _ _ _ _
   | exact ih2 _ _ _ _ _ _ _
   | exact impl_namesOk.mono _ _ _ _ _
   | exact impl_partsOk.mono _ _ _ _ _ _
   | exact impl_twice.mono _ _ _ _ _
   | exact LeO.none _
   | refine LeO.ite ?_ ?_
   | refine LeO.bind ?_ (fun _=>?_)
  ·intro y0 y1 y2 y3 y4 y5 y6
   unfold impl_CheckDef.l2
   repeat' first
   | (with_reducible exact ih0 _ _ _ _ _ _ _)
   | (with_reducible exact ih1 _ _ _ _ _ _ _)
   | (with_reducible exact ih2 _ _ _ _ _ _ _)
   | (with_reducible exact impl_namesOk.mono _ _ _ _ _)
   | (with_reducible exact impl_partsOk.mono _ _ _ _ _ _)
   | (with_reducible exact impl_twice.mono _ _ _ _ _)
   | (with_reducible exact LeO.refl _)
   | (with_reducible exact LeO.none _)
   | (with_reducible refine LeO.ite ?_ ?_)
   | (with_reducible refine LeO.bind ?_ (fun _=>?_))
   | exact ih0 _ _ _ _ _ _ _
   | exact ih1 _ _ _ _ _ _ _
   | exact ih2 _ _ _ _ _ _ _
   | exact impl_namesOk.mono _ _ _ _ _
   | exact impl_partsOk.mono _ _ _ _ _ _
   | exact impl_twice.mono _ _ _ _ _
   | exact LeO.none _
   | refine LeO.ite ?_ ?_
   | refine LeO.bind ?_ (fun _=>?_)
theorem impl_CheckDef.mono : ∀ a0 a1 a2 a3 k,LeO (impl_CheckDef.f k a0 a1 a2 a3) (impl_CheckDef.f (k + 1) a0 a1 a2 a3):=by
 intro a0 a1 a2 a3 k
 obtain ⟨ih0,ih1,ih2⟩:=impl_CheckDef.mono_l k
 unfold impl_CheckDef.f
 repeat' first
   | (with_reducible exact ih0 _ _ _ _ _ _ _)
   | (with_reducible exact ih1 _ _ _ _ _ _ _)
   | (with_reducible exact ih2 _ _ _ _ _ _ _)
   | (with_reducible exact impl_namesOk.mono _ _ _ _ _)
   | (with_reducible exact impl_partsOk.mono _ _ _ _ _ _)
   | (with_reducible exact impl_twice.mono _ _ _ _ _)
   | (with_reducible exact LeO.refl _)
   | (with_reducible exact LeO.none _)
   | (with_reducible refine LeO.ite ?_ ?_)
   | (with_reducible refine LeO.bind ?_ (fun _=>?_))
   | exact ih0 _ _ _ _ _ _ _
   | exact ih1 _ _ _ _ _ _ _
   | exact ih2 _ _ _ _ _ _ _
   | exact impl_namesOk.mono _ _ _ _ _
   | exact impl_partsOk.mono _ _ _ _ _ _
   | exact impl_twice.mono _ _ _ _ _
   | exact LeO.none _
   | refine LeO.ite ?_ ?_
   | refine LeO.bind ?_ (fun _=>?_)
set_option maxHeartbeats 8000000 in
set_option maxRecDepth 100000 in
theorem impl_CheckDef.calls (k : Nat) (a0_0 : ByteArray) (A0_1 : Option Addr) (c0_1 : Nat) (l0_1 : List (S82)) (A0_2 : Option Addr) (c0_2 : Nat) (l0_2 : List (S85)) (A0_3 : Option Addr) (c0_3 : Nat) (l0_3 : List (S69)) (r : Int) (w : World) (hr0_1 : Kd.C k82 w A0_1 l0_1.length l0_1) (hc0_1 : l0_1.length ≤ c0_1) (hr0_2 : Kd.C k85 w A0_2 l0_2.length l0_2) (hc0_2 : l0_2.length ≤ c0_2) (hr0_3 : Kd.C k69 w A0_3 l0_3.length l0_3) (hc0_3 : l0_3.length ≤ c0_3) (h : impl_CheckDef.f k a0_0 l0_1 l0_2 l0_3 = some r) :
  Calls Tryd.prog 21 #[.agg #[.string a0_0,.slice A0_1 l0_1.length c0_1,.slice A0_2 l0_2.length c0_2,.slice A0_3 l0_3.length c0_3]] w fun e w'=>e = .returned (.int .i64 r) ∧ Below w.heap.size w w':=by
 have hu35:=Tryd.underlying35
 have hu82:=Tryd.underlying82
 have hu69:=Tryd.underlying69
 have hu85:=Tryd.underlying85
 have HR0_1:=aM_ hr0_1
 have HC0_1:=aM_ hc0_1
 clear hr0_1 hc0_1
 have HR0_2:=aM_ hr0_2
 have HC0_2:=aM_ hc0_2
 clear hr0_2 hc0_2
 have HR0_3:=aM_ hr0_3
 have HC0_3:=aM_ hc0_3
 clear hr0_3 hc0_3
 have HB:=aM_ (Below.refl w.heap.size w)
 have H : ((impl_namesOk.f k a0_0 l0_1 l0_2 l0_3).bind fun t319=>(if t319 = true then ((impl_in.f (l0_1.length : Int) 1 6).bind fun t320=>(if t320 = true then (impl_CheckDef.l0 k l0_1 (l0_1.length : Int) 0 a0_0 l0_1 l0_2 l0_3) else (some 2))) else (some 1))) = some r:=h
 clear h
 replace H:=oB_ H
 obtain ⟨t319,A20,H⟩:=H
 replace H : (if t319 = true then ((impl_in.f (l0_1.length : Int) 1 6).bind fun t320=>(if t320 = true then (impl_CheckDef.l0 k l0_1 (l0_1.length : Int) 0 a0_0 l0_1 l0_2 l0_3) else (some 2))) else (some 1)) = some r:=H
 have A2:=aM_ A20
 clear A20
 by_cases c3 : t319 = true
 ·subst c3
  have H1 : ((impl_in.f (l0_1.length : Int) 1 6).bind fun t320=>(if t320 = true then (impl_CheckDef.l0 k l0_1 (l0_1.length : Int) 0 a0_0 l0_1 l0_2 l0_3) else (some 2))) = some r:=by rw [if_pos rfl] at H;exact H
  clear H
  have H:=H1
  clear H1
  replace H:=oB_ H
  obtain ⟨t320,A40,H⟩:=H
  replace H : (if t320 = true then (impl_CheckDef.l0 k l0_1 (l0_1.length : Int) 0 a0_0 l0_1 l0_2 l0_3) else (some 2)) = some r:=H
  have A4:=aM_ A40
  clear A40
  by_cases c5 : t320 = true
  ·subst c5
   have H1 : (impl_CheckDef.l0 k l0_1 (l0_1.length : Int) 0 a0_0 l0_1 l0_2 l0_3) = some r:=by rw [if_pos rfl] at H;exact H
   clear H
   have H:=H1
   clear H1
   have H':=aM_ H
   clear H
   go_enter Tryd.func21,Tryd.ntmps21
   go_wp2_with (first | ((with_reducible refine gate_dst (N:=1) rfl ?_);refine box_event ?hg (N:=1) ?hd (cs:=#[.string a0_0,.slice A0_1 l0_1.length c0_1,.slice A0_2 l0_2.length c0_2,.slice A0_3 l0_3.length c0_3]) (t:=35) ?hr ?_;(case hd=>rfl);(case hg=>rfl);(case hr=>first | (go_simp;done) | (go_simp;rfl));intro gb318 hg w6 hbox hb;have n0_:=aM_ (bT_ (by exact bZ_ HB) hb);have n1_:=aM_ (hbox);have n2_:=aM_ ((by rw [hg];exact (bS_ (by exact bZ_ HB)) : w.heap.size ≤ gb318));have n3_:=aM_ ((by rw [hg];exact (bS_ (by exact bZ_ HB)) : w.heap.size ≤ gb318));clear HB;have HB:=n0_;have BK318:=n1_;have GW318:=n2_;have GE318:=n3_;clear n0_ n1_ n2_ n3_ hb hbox hg;have hcz7_0 : w6.cell? ⟨gb318,0,none⟩ = some (.string a0_0):=(kC_ BK318.out 0).trans rfl;have hcz7_1 : w6.cell? ⟨gb318,1,none⟩ = some (.slice A0_1 l0_1.length c0_1):=(kC_ BK318.out 1).trans rfl;have hcz7_2 : w6.cell? ⟨gb318,2,none⟩ = some (.slice A0_2 l0_2.length c0_2):=(kC_ BK318.out 2).trans rfl;have hcz7_3 : w6.cell? ⟨gb318,3,none⟩ = some (.slice A0_3 l0_3.length c0_3):=(kC_ BK318.out 3).trans rfl;have hfz7_0:=kF_ BK318.out 0;have hfz7_1:=kF_ BK318.out 1;have hfz7_2:=kF_ BK318.out 2;have hfz7_3:=kF_ BK318.out 3) | ((with_reducible refine gate_callee (f:=54) rfl ?_);refine goesL_ (some 10) rfl rfl Tryd.func54 (by kernel_rfl) rfl #[.agg #[.string a0_0,.slice A0_1 l0_1.length c0_1,.slice A0_2 l0_2.length c0_2,.slice A0_3 l0_3.length c0_3]] rfl (by (try simp only [mA_,mC_,mN_]);first | done | rfl | (simp only [lD_,lT_];rfl)) ?_;(with_reducible refine (impl_namesOk.calls k a0_0 _ _ l0_1 _ _ l0_2 _ _ l0_3 true _ ?side1 ?side2 ?side3 ?side4 ?side5 ?side6 A2.out).mono ?_);(case side1=>exact cZ_ HR0_1 HB);(case side2=>exact HC0_1.out);(case side3=>exact cZ_ HR0_2 HB);(case side4=>exact HC0_2.out);(case side5=>exact cZ_ HR0_3 HB);(case side6=>exact HC0_3.out);rintro e w8 ⟨rfl,hb⟩;refine ⟨_,rfl,?_⟩;have n0_:=aM_ (blk_below (g:=gb318) (o:=.cells #[.string a0_0,.slice A0_1 l0_1.length c0_1,.slice A0_2 l0_2.length c0_2,.slice A0_3 l0_3.length c0_3] 35 (0,0)) (by exact kZ_ BK318) hb);have n1_:=aM_ (bT_ (by exact bZ_ HB) hb);clear BK318 HB;have BK318:=n0_;have HB:=n1_;clear n0_ n1_ hb;have hcz9_0 : w8.cell? ⟨gb318,0,none⟩ = some (.string a0_0):=(kC_ BK318.out 0).trans rfl;have hcz9_1 : w8.cell? ⟨gb318,1,none⟩ = some (.slice A0_1 l0_1.length c0_1):=(kC_ BK318.out 1).trans rfl;have hcz9_2 : w8.cell? ⟨gb318,2,none⟩ = some (.slice A0_2 l0_2.length c0_2):=(kC_ BK318.out 2).trans rfl;have hcz9_3 : w8.cell? ⟨gb318,3,none⟩ = some (.slice A0_3 l0_3.length c0_3):=(kC_ BK318.out 3).trans rfl;have hfz9_0:=kF_ BK318.out 0;have hfz9_1:=kF_ BK318.out 1;have hfz9_2:=kF_ BK318.out 2;have hfz9_3:=kF_ BK318.out 3) | ((with_reducible refine gate_callee (f:=55) rfl ?_);refine goesL_ (some 15) rfl rfl Tryd.func55 (by kernel_rfl) rfl #[.int .i64 (l0_1.length : Int),.int .i64 1,.int .i64 6] rfl (by (try simp only [mA_,mC_,mN_]);first | done | rfl | (simp only [lD_,lT_];rfl)) ?_;(with_reducible refine (impl_in.calls (l0_1.length : Int) 1 6 true _ A4.out).mono ?_);rintro e w' ⟨rfl,⟨nd,rfl⟩⟩;refine ⟨_,rfl,?_⟩))
   (try simp only [Act.put,sI_,sS_,sZ_])
   go_loopg [20] k (fun kq v20 w'=>∃ (x20_1 : Int),v20 = .int .i64 x20_1 ∧ Aside0 (impl_CheckDef.l0 kq l0_1 (l0_1.length : Int) x20_1 a0_0 l0_1 l0_2 l0_3 = some r) ∧ Aside0 (kq ≤ k) ∧ Aside0 (w'.heap[gb318]? = some (.cells #[.string a0_0,(.slice A0_1 l0_1.length c0_1),(.slice A0_2 l0_2.length c0_2),(.slice A0_3 l0_3.length c0_3)] 35 (0,0))) ∧ Aside0 (Below w.heap.size w w'))
   case atStart=>exact ⟨(0),(by first | rfl | (simp;done) | (simp [*];done)),H', ⟨Nat.le_refl _⟩,⟨by exact kZ_ BK318⟩,⟨by exact bZ_ HB⟩⟩
   case round =>
    clear H'
    clear hcz7_0 hcz7_1 hcz7_2 hcz7_3 hcz9_0 hcz9_1 hcz9_2 hcz9_3 hfz7_0 hfz7_1 hfz7_2 hfz7_3 hfz9_0 hfz9_1 hfz9_2 hfz9_3
    obtain ⟨x20_1,rfl,HA,HK1,BK318,HB⟩:=hrel
    cases gk with
    | zero=>exact absurd HA.out (by simp [impl_CheckDef.l0])
    | succ k1 =>
     have H:=HA.out
     clear HA
     simp only [impl_CheckDef.l0] at H
     by_cases c10 : x20_1 < (l0_1.length : Int)
     ·rw [if_pos c10] at H
      have c10b0 : decide (x20_1 < (l0_1.length : Int)) = true:=decide_eq_true c10
      clear c10
      by_cases c11 : 0 ≤ x20_1
      ·rw [if_pos c11] at H
       have c11b0 : decide (0 ≤ x20_1) = true:=decide_eq_true c11
       clear c11
       by_cases c12 : x20_1 < (l0_1.length : Int)
       ·rw [if_pos c12] at H
        have c12b0 : decide (x20_1 < (l0_1.length : Int)) = true:=decide_eq_true c12
        clear c12
        replace H:=oB_ H
        obtain ⟨t323,A130,H⟩:=H
        replace H : (if t323 = true then (impl_CheckDef.l0 k1 l0_1 (l0_1.length : Int) (wrap64 (x20_1 + 1)) a0_0 l0_1 l0_2 l0_3) else (some 2)) = some r:=H
        have A13:=aM_ A130
        clear A130
        by_cases c14 : t323 = true
        ·subst c14
         have H1 : (impl_CheckDef.l0 k1 l0_1 (l0_1.length : Int) (wrap64 (x20_1 + 1)) a0_0 l0_1 l0_2 l0_3) = some r:=by rw [if_pos rfl] at H;exact H
         clear H
         have H:=H1
         clear H1
         have H':=aM_ H
         clear H
         have p321 : 0 ≤ (x20_1 : Int):=oT_ (by first | (with_reducible assumption) | assumption)
         have q321 : x20_1 < (l0_1.length : Int):=oT_ (by first | (with_reducible assumption) | assumption)
         obtain ⟨ad321,e321,hx321_0,hx321_1,hx321_2⟩:=at_T82 HR0_1.out x20_1 p321 q321
         cases e321
         replace hx321_0:=(HB.out.cell (wL_ w _ hx321_0)).trans hx321_0
         replace hx321_1:=(HB.out.cell (wL_ w _ hx321_1)).trans hx321_1
         replace hx321_2:=(HB.out.cell (wL_ w _ hx321_2)).trans hx321_2
         replace p321:=eq_true p321
         replace q321:=eq_true q321
         go_wp2_with (first | ((with_reducible refine gate_dst (N:=4) rfl ?_);refine box_event ?hg (N:=4) ?hd (cs:=#[.string (⟨#[]⟩ : ByteArray),.int .i64 0,.bool false]) (t:=82) ?hr ?_;(case hd=>rfl);(case hg=>rfl);(case hr=>first | (go_simp;done) | (go_simp;rfl));intro gb322 hg w15 hbox hb;have n0_:=aM_ (blk_below (g:=gb318) (o:=.cells #[.string a0_0,.slice (some ad321) l0_1.length c0_1,.slice A0_2 l0_2.length c0_2,.slice A0_3 l0_3.length c0_3] 35 (0,0)) (by exact kZ_ BK318) hb);have n1_:=aM_ (bT_ (by exact bZ_ HB) hb);have n2_:=aM_ (hbox);have n3_:=aM_ ((by rw [hg];exact (bS_ (by exact bZ_ HB)) : w.heap.size ≤ gb322));have n4_:=aM_ ((by rw [hg];exact (bS_ (by exact bZ_ HB)) : w.heap.size ≤ gb322));have n5_:=aM_ ((by rw [hg];exact nN_ (blk_lt (g:=gb318) (o:=.cells #[.string a0_0,.slice (some ad321) l0_1.length c0_1,.slice A0_2 l0_2.length c0_2,.slice A0_3 l0_3.length c0_3] 35 (0,0)) (by exact kZ_ BK318)) : gb318 ≠ gb322));have n6_:=aM_ ((by rw [hg];exact Nat.ne_of_gt (blk_lt (g:=gb318) (o:=.cells #[.string a0_0,.slice (some ad321) l0_1.length c0_1,.slice A0_2 l0_2.length c0_2,.slice A0_3 l0_3.length c0_3] 35 (0,0)) (by exact kZ_ BK318)) : gb322 ≠ gb318));clear BK318 HB;have BK318:=n0_;have HB:=n1_;have BK322:=n2_;have GW322:=n3_;have GE322:=n4_;have NB318_322:=n5_;have NB322_318:=n6_;clear n0_ n1_ n2_ n3_ n4_ n5_ n6_ hb hbox hg;have hnb16:=NB322_318.out;have hnc16:=NB318_322.out;have hcz17_0 : w15.cell? ⟨gb322,0,none⟩ = some (.string (⟨#[]⟩ : ByteArray)):=(kC_ BK322.out 0).trans rfl;have hcz17_1 : w15.cell? ⟨gb322,1,none⟩ = some (.int .i64 0):=(kC_ BK322.out 1).trans rfl;have hcz17_2 : w15.cell? ⟨gb322,2,none⟩ = some (.bool false):=(kC_ BK322.out 2).trans rfl;have hfz17_0:=kF_ BK322.out 0;have hfz17_1:=kF_ BK322.out 1;have hfz17_2:=kF_ BK322.out 2) | ((with_reducible refine gate_callee (f:=55) rfl ?_);refine goesL_ (some 26) rfl rfl Tryd.func55 (by kernel_rfl) rfl #[.int .i64 ((rd_T82 l0_1 x20_1).f1),.int .i64 1,.int .i64 4] rfl (by (try simp only [mA_,mC_,mN_]);first | done | rfl | (simp only [lD_,lT_];rfl)) ?_;(with_reducible refine (impl_in.calls ((rd_T82 l0_1 x20_1).f1) 1 4 true _ A13.out).mono ?_);rintro e w' ⟨rfl,⟨nd,rfl⟩⟩;refine ⟨_,rfl,?_⟩))
         go_roundg k1
         case measure=>have:=HK1.out;omega
         case rel=>exact ⟨(wrap64 (x20_1 + 1)),(by first | rfl | (simp;done) | (simp [*];done)),H', ⟨by have:=HK1.out;omega⟩,⟨by exact kW_ BK318⟩,⟨by exact bZ_ HB⟩⟩
        ·replace c14:=Bool.eq_false_iff.mpr c14
         subst c14
         have H1 : (some 2) = some r:=by rw [if_neg (show ¬ (false = true) by decide)] at H;exact H
         clear H
         have H:=H1
         clear H1
         obtain rfl:=Option.some.inj H
         have p321 : 0 ≤ (x20_1 : Int):=oT_ (by first | (with_reducible assumption) | assumption)
         have q321 : x20_1 < (l0_1.length : Int):=oT_ (by first | (with_reducible assumption) | assumption)
         obtain ⟨ad321,e321,hx321_0,hx321_1,hx321_2⟩:=at_T82 HR0_1.out x20_1 p321 q321
         cases e321
         replace hx321_0:=(HB.out.cell (wL_ w _ hx321_0)).trans hx321_0
         replace hx321_1:=(HB.out.cell (wL_ w _ hx321_1)).trans hx321_1
         replace hx321_2:=(HB.out.cell (wL_ w _ hx321_2)).trans hx321_2
         replace p321:=eq_true p321
         replace q321:=eq_true q321
         go_wp2_with (first | ((with_reducible refine gate_dst (N:=4) rfl ?_);refine box_event ?hg (N:=4) ?hd (cs:=#[.string (⟨#[]⟩ : ByteArray),.int .i64 0,.bool false]) (t:=82) ?hr ?_;(case hd=>rfl);(case hg=>rfl);(case hr=>first | (go_simp;done) | (go_simp;rfl));intro gb322 hg w18 hbox hb;have n0_:=aM_ (blk_below (g:=gb318) (o:=.cells #[.string a0_0,.slice (some ad321) l0_1.length c0_1,.slice A0_2 l0_2.length c0_2,.slice A0_3 l0_3.length c0_3] 35 (0,0)) (by exact kZ_ BK318) hb);have n1_:=aM_ (bT_ (by exact bZ_ HB) hb);have n2_:=aM_ (hbox);have n3_:=aM_ ((by rw [hg];exact (bS_ (by exact bZ_ HB)) : w.heap.size ≤ gb322));have n4_:=aM_ ((by rw [hg];exact (bS_ (by exact bZ_ HB)) : w.heap.size ≤ gb322));have n5_:=aM_ ((by rw [hg];exact nN_ (blk_lt (g:=gb318) (o:=.cells #[.string a0_0,.slice (some ad321) l0_1.length c0_1,.slice A0_2 l0_2.length c0_2,.slice A0_3 l0_3.length c0_3] 35 (0,0)) (by exact kZ_ BK318)) : gb318 ≠ gb322));have n6_:=aM_ ((by rw [hg];exact Nat.ne_of_gt (blk_lt (g:=gb318) (o:=.cells #[.string a0_0,.slice (some ad321) l0_1.length c0_1,.slice A0_2 l0_2.length c0_2,.slice A0_3 l0_3.length c0_3] 35 (0,0)) (by exact kZ_ BK318)) : gb322 ≠ gb318));clear BK318 HB;have BK318:=n0_;have HB:=n1_;have BK322:=n2_;have GW322:=n3_;have GE322:=n4_;have NB318_322:=n5_;have NB322_318:=n6_;clear n0_ n1_ n2_ n3_ n4_ n5_ n6_ hb hbox hg;have hnb19:=NB322_318.out;have hnc19:=NB318_322.out;have hcz20_0 : w18.cell? ⟨gb322,0,none⟩ = some (.string (⟨#[]⟩ : ByteArray)):=(kC_ BK322.out 0).trans rfl;have hcz20_1 : w18.cell? ⟨gb322,1,none⟩ = some (.int .i64 0):=(kC_ BK322.out 1).trans rfl;have hcz20_2 : w18.cell? ⟨gb322,2,none⟩ = some (.bool false):=(kC_ BK322.out 2).trans rfl;have hfz20_0:=kF_ BK322.out 0;have hfz20_1:=kF_ BK322.out 1;have hfz20_2:=kF_ BK322.out 2) | ((with_reducible refine gate_callee (f:=55) rfl ?_);refine goesL_ (some 26) rfl rfl Tryd.func55 (by kernel_rfl) rfl #[.int .i64 ((rd_T82 l0_1 x20_1).f1),.int .i64 1,.int .i64 4] rfl (by (try simp only [mA_,mC_,mN_]);first | done | rfl | (simp only [lD_,lT_];rfl)) ?_;(with_reducible refine (impl_in.calls ((rd_T82 l0_1 x20_1).f1) 1 4 false _ A13.out).mono ?_);rintro e w' ⟨rfl,⟨nd,rfl⟩⟩;refine ⟨_,rfl,?_⟩))
         go_ret
         exact ⟨by first | rfl | (simp [errW_none,errW_some] <;> rfl) | (simp [*, errW_none,errW_some] <;> rfl),by exact bZ_ HB⟩
       ·rw [if_neg c12] at H
        exact absurd H (by simp)
      ·rw [if_neg c11] at H
       exact absurd H (by simp)
     ·rw [if_neg c10] at H
      have c10b0 : decide (x20_1 < (l0_1.length : Int)) = false:=decide_eq_false c10
      clear c10
      replace H:=oB_ H
      obtain ⟨t324,A210,H⟩:=H
      replace H : (if t324 = true then (some 3) else (if (l0_3.length : Int) > 2 then (some 6) else (impl_CheckDef.l1 k1 l0_3 (l0_3.length : Int) 0 a0_0 l0_1 l0_2 l0_3))) = some r:=H
      have A21:=aM_ A210
      clear A210
      by_cases c22 : t324 = true
      ·subst c22
       have H1 : (some 3) = some r:=by rw [if_pos rfl] at H;exact H
       clear H
       have H:=H1
       clear H1
       obtain rfl:=Option.some.inj H
       have hcz23_0 : wr.cell? ⟨gb318,0,none⟩ = some (.string a0_0):=(kC_ BK318.out 0).trans rfl
       have hcz23_1 : wr.cell? ⟨gb318,1,none⟩ = some (.slice A0_1 l0_1.length c0_1):=(kC_ BK318.out 1).trans rfl
       have hcz23_2 : wr.cell? ⟨gb318,2,none⟩ = some (.slice A0_2 l0_2.length c0_2):=(kC_ BK318.out 2).trans rfl
       have hcz23_3 : wr.cell? ⟨gb318,3,none⟩ = some (.slice A0_3 l0_3.length c0_3):=(kC_ BK318.out 3).trans rfl
       have hfz23_0:=kF_ BK318.out 0
       have hfz23_1:=kF_ BK318.out 1
       have hfz23_2:=kF_ BK318.out 2
       have hfz23_3:=kF_ BK318.out 3
       go_wp2_with (first | ((with_reducible refine gate_callee (f:=56) rfl ?_);refine goesL_ (some 30) rfl rfl Tryd.func56 (by kernel_rfl) rfl #[.agg #[.string a0_0,.slice A0_1 l0_1.length c0_1,.slice A0_2 l0_2.length c0_2,.slice A0_3 l0_3.length c0_3]] rfl (by (try simp only [mA_,mC_,mN_]);first | done | rfl | (simp only [lD_,lT_];rfl)) ?_;(with_reducible refine (impl_twice.calls k1 a0_0 _ _ l0_1 _ _ l0_2 _ _ l0_3 true _ ?side1 ?side2 ?side3 ?side4 ?side5 ?side6 A21.out).mono ?_);(case side1=>exact cZ_ HR0_1 HB);(case side2=>exact HC0_1.out);(case side3=>exact cZ_ HR0_2 HB);(case side4=>exact HC0_2.out);(case side5=>exact cZ_ HR0_3 HB);(case side6=>exact HC0_3.out);rintro e w24 ⟨rfl,hb⟩;refine ⟨_,rfl,?_⟩;have n0_:=aM_ (blk_below (g:=gb318) (o:=.cells #[.string a0_0,.slice A0_1 l0_1.length c0_1,.slice A0_2 l0_2.length c0_2,.slice A0_3 l0_3.length c0_3] 35 (0,0)) (by exact kZ_ BK318) hb);have n1_:=aM_ (bT_ (by exact bZ_ HB) hb);clear BK318 HB;have BK318:=n0_;have HB:=n1_;clear n0_ n1_ hb))
       go_ret
       exact ⟨by first | rfl | (simp [errW_none,errW_some] <;> rfl) | (simp [*, errW_none,errW_some] <;> rfl),by exact bZ_ HB⟩
      ·replace c22:=Bool.eq_false_iff.mpr c22
       subst c22
       have H1 : (if (l0_3.length : Int) > 2 then (some 6) else (impl_CheckDef.l1 k1 l0_3 (l0_3.length : Int) 0 a0_0 l0_1 l0_2 l0_3)) = some r:=by rw [if_neg (show ¬ (false = true) by decide)] at H;exact H
       clear H
       have H:=H1
       clear H1
       by_cases c25 : (l0_3.length : Int) > 2
       ·rw [if_pos c25] at H
        have c25b0 : decide (2 < (l0_3.length : Int)) = true:=decide_eq_true c25
        have c25b1 : decide (2 < l0_3.length) = true:=decide_eq_true (by omega)
        clear c25
        obtain rfl:=Option.some.inj H
        have hcz26_0 : wr.cell? ⟨gb318,0,none⟩ = some (.string a0_0):=(kC_ BK318.out 0).trans rfl
        have hcz26_1 : wr.cell? ⟨gb318,1,none⟩ = some (.slice A0_1 l0_1.length c0_1):=(kC_ BK318.out 1).trans rfl
        have hcz26_2 : wr.cell? ⟨gb318,2,none⟩ = some (.slice A0_2 l0_2.length c0_2):=(kC_ BK318.out 2).trans rfl
        have hcz26_3 : wr.cell? ⟨gb318,3,none⟩ = some (.slice A0_3 l0_3.length c0_3):=(kC_ BK318.out 3).trans rfl
        have hfz26_0:=kF_ BK318.out 0
        have hfz26_1:=kF_ BK318.out 1
        have hfz26_2:=kF_ BK318.out 2
        have hfz26_3:=kF_ BK318.out 3
        go_wp2_with (first | ((with_reducible refine gate_callee (f:=56) rfl ?_);refine goesL_ (some 30) rfl rfl Tryd.func56 (by kernel_rfl) rfl #[.agg #[.string a0_0,.slice A0_1 l0_1.length c0_1,.slice A0_2 l0_2.length c0_2,.slice A0_3 l0_3.length c0_3]] rfl (by (try simp only [mA_,mC_,mN_]);first | done | rfl | (simp only [lD_,lT_];rfl)) ?_;(with_reducible refine (impl_twice.calls k1 a0_0 _ _ l0_1 _ _ l0_2 _ _ l0_3 false _ ?side1 ?side2 ?side3 ?side4 ?side5 ?side6 A21.out).mono ?_);(case side1=>exact cZ_ HR0_1 HB);(case side2=>exact HC0_1.out);(case side3=>exact cZ_ HR0_2 HB);(case side4=>exact HC0_2.out);(case side5=>exact cZ_ HR0_3 HB);(case side6=>exact HC0_3.out);rintro e w27 ⟨rfl,hb⟩;refine ⟨_,rfl,?_⟩;have n0_:=aM_ (blk_below (g:=gb318) (o:=.cells #[.string a0_0,.slice A0_1 l0_1.length c0_1,.slice A0_2 l0_2.length c0_2,.slice A0_3 l0_3.length c0_3] 35 (0,0)) (by exact kZ_ BK318) hb);have n1_:=aM_ (bT_ (by exact bZ_ HB) hb);clear BK318 HB;have BK318:=n0_;have HB:=n1_;clear n0_ n1_ hb;have hcz28_0 : w27.cell? ⟨gb318,0,none⟩ = some (.string a0_0):=(kC_ BK318.out 0).trans rfl;have hcz28_1 : w27.cell? ⟨gb318,1,none⟩ = some (.slice A0_1 l0_1.length c0_1):=(kC_ BK318.out 1).trans rfl;have hcz28_2 : w27.cell? ⟨gb318,2,none⟩ = some (.slice A0_2 l0_2.length c0_2):=(kC_ BK318.out 2).trans rfl;have hcz28_3 : w27.cell? ⟨gb318,3,none⟩ = some (.slice A0_3 l0_3.length c0_3):=(kC_ BK318.out 3).trans rfl;have hfz28_0:=kF_ BK318.out 0;have hfz28_1:=kF_ BK318.out 1;have hfz28_2:=kF_ BK318.out 2;have hfz28_3:=kF_ BK318.out 3))
        go_ret
        exact ⟨by first | rfl | (simp [errW_none,errW_some] <;> rfl) | (simp [*, errW_none,errW_some] <;> rfl),by exact bZ_ HB⟩
       ·rw [if_neg c25] at H
        have c25b0 : decide (2 < (l0_3.length : Int)) = false:=decide_eq_false c25
        have c25b1 : decide (2 < l0_3.length) = false:=decide_eq_false (by omega)
        clear c25
        have H':=aM_ H
        clear H
        have hcz29_0 : wr.cell? ⟨gb318,0,none⟩ = some (.string a0_0):=(kC_ BK318.out 0).trans rfl
        have hcz29_1 : wr.cell? ⟨gb318,1,none⟩ = some (.slice A0_1 l0_1.length c0_1):=(kC_ BK318.out 1).trans rfl
        have hcz29_2 : wr.cell? ⟨gb318,2,none⟩ = some (.slice A0_2 l0_2.length c0_2):=(kC_ BK318.out 2).trans rfl
        have hcz29_3 : wr.cell? ⟨gb318,3,none⟩ = some (.slice A0_3 l0_3.length c0_3):=(kC_ BK318.out 3).trans rfl
        have hfz29_0:=kF_ BK318.out 0
        have hfz29_1:=kF_ BK318.out 1
        have hfz29_2:=kF_ BK318.out 2
        have hfz29_3:=kF_ BK318.out 3
        go_wp2_with (first | ((with_reducible refine gate_callee (f:=56) rfl ?_);refine goesL_ (some 30) rfl rfl Tryd.func56 (by kernel_rfl) rfl #[.agg #[.string a0_0,.slice A0_1 l0_1.length c0_1,.slice A0_2 l0_2.length c0_2,.slice A0_3 l0_3.length c0_3]] rfl (by (try simp only [mA_,mC_,mN_]);first | done | rfl | (simp only [lD_,lT_];rfl)) ?_;(with_reducible refine (impl_twice.calls k1 a0_0 _ _ l0_1 _ _ l0_2 _ _ l0_3 false _ ?side1 ?side2 ?side3 ?side4 ?side5 ?side6 A21.out).mono ?_);(case side1=>exact cZ_ HR0_1 HB);(case side2=>exact HC0_1.out);(case side3=>exact cZ_ HR0_2 HB);(case side4=>exact HC0_2.out);(case side5=>exact cZ_ HR0_3 HB);(case side6=>exact HC0_3.out);rintro e w30 ⟨rfl,hb⟩;refine ⟨_,rfl,?_⟩;have n0_:=aM_ (blk_below (g:=gb318) (o:=.cells #[.string a0_0,.slice A0_1 l0_1.length c0_1,.slice A0_2 l0_2.length c0_2,.slice A0_3 l0_3.length c0_3] 35 (0,0)) (by exact kZ_ BK318) hb);have n1_:=aM_ (bT_ (by exact bZ_ HB) hb);clear BK318 HB;have BK318:=n0_;have HB:=n1_;clear n0_ n1_ hb;have hcz31_0 : w30.cell? ⟨gb318,0,none⟩ = some (.string a0_0):=(kC_ BK318.out 0).trans rfl;have hcz31_1 : w30.cell? ⟨gb318,1,none⟩ = some (.slice A0_1 l0_1.length c0_1):=(kC_ BK318.out 1).trans rfl;have hcz31_2 : w30.cell? ⟨gb318,2,none⟩ = some (.slice A0_2 l0_2.length c0_2):=(kC_ BK318.out 2).trans rfl;have hcz31_3 : w30.cell? ⟨gb318,3,none⟩ = some (.slice A0_3 l0_3.length c0_3):=(kC_ BK318.out 3).trans rfl;have hfz31_0:=kF_ BK318.out 0;have hfz31_1:=kF_ BK318.out 1;have hfz31_2:=kF_ BK318.out 2;have hfz31_3:=kF_ BK318.out 3))
        (try simp only [Act.put,sI_,sS_,sZ_])
        go_loopg [38] k1 (fun kq v38 w'=>∃ (x38_2 : Int),v38 = .int .i64 x38_2 ∧ Aside0 (impl_CheckDef.l1 kq l0_3 (l0_3.length : Int) x38_2 a0_0 l0_1 l0_2 l0_3 = some r) ∧ Aside0 (kq ≤ k1) ∧ Aside0 (w'.heap[gb318]? = some (.cells #[.string a0_0,(.slice A0_1 l0_1.length c0_1),(.slice A0_2 l0_2.length c0_2),(.slice A0_3 l0_3.length c0_3)] 35 (0,0))) ∧ Aside0 (Below w.heap.size w w'))
        case atStart=>exact ⟨(0),(by first | rfl | (simp;done) | (simp [*];done)),H', ⟨Nat.le_refl _⟩,⟨by exact kZ_ BK318⟩,⟨by exact bZ_ HB⟩⟩
        case round =>
         clear H'
         clear c10b0 c25b0 c25b1 hcz29_0 hcz29_1 hcz29_2 hcz29_3 hcz31_0 hcz31_1 hcz31_2 hcz31_3 hfz29_0 hfz29_1 hfz29_2 hfz29_3 hfz31_0 hfz31_1 hfz31_2 hfz31_3
         obtain ⟨x38_2,rfl,HA,HK2,BK318,HB⟩:=hrel
         cases gk with
         | zero=>exact absurd HA.out (by simp [impl_CheckDef.l1])
         | succ k2 =>
          have H:=HA.out
          clear HA
          simp only [impl_CheckDef.l1] at H
          by_cases c32 : x38_2 < (l0_3.length : Int)
          ·rw [if_pos c32] at H
           have c32b0 : decide (x38_2 < (l0_3.length : Int)) = true:=decide_eq_true c32
           clear c32
           by_cases c33 : 0 ≤ x38_2
           ·rw [if_pos c33] at H
            have c33b0 : decide (0 ≤ x38_2) = true:=decide_eq_true c33
            clear c33
            by_cases c34 : x38_2 < (l0_3.length : Int)
            ·rw [if_pos c34] at H
             have c34b0 : decide (x38_2 < (l0_3.length : Int)) = true:=decide_eq_true c34
             clear c34
             replace H:=oB_ H
             obtain ⟨t327,A350,H⟩:=H
             replace H : (if t327 = true then (impl_CheckDef.l1 k2 l0_3 (l0_3.length : Int) (wrap64 (x38_2 + 1)) a0_0 l0_1 l0_2 l0_3) else (some 5)) = some r:=H
             have A35:=aM_ A350
             clear A350
             by_cases c36 : t327 = true
             ·subst c36
              have H1 : (impl_CheckDef.l1 k2 l0_3 (l0_3.length : Int) (wrap64 (x38_2 + 1)) a0_0 l0_1 l0_2 l0_3) = some r:=by rw [if_pos rfl] at H;exact H
              clear H
              have H:=H1
              clear H1
              have H':=aM_ H
              clear H
              have p325 : 0 ≤ (x38_2 : Int):=oT_ (by first | (with_reducible assumption) | assumption)
              have q325 : x38_2 < (l0_3.length : Int):=oT_ (by first | (with_reducible assumption) | assumption)
              obtain ⟨ad325,A325_2,c325_2,e325,hx325_0,hx325_1,hx325_2,hl325_2,hi325_2⟩:=at_T69 HR0_3.out x38_2 p325 q325
              cases e325
              replace hx325_0:=(HB.out.cell (wL_ w _ hx325_0)).trans hx325_0
              replace hx325_1:=(HB.out.cell (wL_ w _ hx325_1)).trans hx325_1
              replace hx325_2:=(HB.out.cell (wL_ w _ hx325_2)).trans hx325_2
              have HR325_2:=aM_ hi325_2
              have HC325_2:=aM_ hl325_2
              clear hi325_2 hl325_2
              replace p325:=eq_true p325
              replace q325:=eq_true q325
              go_wp2_with (first | ((with_reducible refine gate_dst (N:=6) rfl ?_);refine box_event ?hg (N:=6) ?hd (cs:=#[.string (⟨#[]⟩ : ByteArray),.bool false,.slice none 0 0]) (t:=69) ?hr ?_;(case hd=>rfl);(case hg=>rfl);(case hr=>first | (go_simp;done) | (go_simp;rfl));intro gb326 hg w37 hbox hb;have n0_:=aM_ (blk_below (g:=gb318) (o:=.cells #[.string a0_0,.slice A0_1 l0_1.length c0_1,.slice A0_2 l0_2.length c0_2,.slice (some ad325) l0_3.length c0_3] 35 (0,0)) (by exact kZ_ BK318) hb);have n1_:=aM_ (bT_ (by exact bZ_ HB) hb);have n2_:=aM_ (hbox);have n3_:=aM_ ((by rw [hg];exact (bS_ (by exact bZ_ HB)) : w.heap.size ≤ gb326));have n4_:=aM_ ((by rw [hg];exact (bS_ (by exact bZ_ HB)) : w.heap.size ≤ gb326));have n5_:=aM_ ((by rw [hg];exact nN_ (blk_lt (g:=gb318) (o:=.cells #[.string a0_0,.slice A0_1 l0_1.length c0_1,.slice A0_2 l0_2.length c0_2,.slice (some ad325) l0_3.length c0_3] 35 (0,0)) (by exact kZ_ BK318)) : gb318 ≠ gb326));have n6_:=aM_ ((by rw [hg];exact Nat.ne_of_gt (blk_lt (g:=gb318) (o:=.cells #[.string a0_0,.slice A0_1 l0_1.length c0_1,.slice A0_2 l0_2.length c0_2,.slice (some ad325) l0_3.length c0_3] 35 (0,0)) (by exact kZ_ BK318)) : gb326 ≠ gb318));clear BK318 HB;have BK318:=n0_;have HB:=n1_;have BK326:=n2_;have GW326:=n3_;have GE326:=n4_;have NB318_326:=n5_;have NB326_318:=n6_;clear n0_ n1_ n2_ n3_ n4_ n5_ n6_ hb hbox hg;have hnb38:=NB326_318.out;have hnc38:=NB318_326.out;have hcz39_0 : w37.cell? ⟨gb326,0,none⟩ = some (.string (⟨#[]⟩ : ByteArray)):=(kC_ BK326.out 0).trans rfl;have hcz39_1 : w37.cell? ⟨gb326,1,none⟩ = some (.bool false):=(kC_ BK326.out 1).trans rfl;have hcz39_2 : w37.cell? ⟨gb326,2,none⟩ = some (.slice none 0 0):=(kC_ BK326.out 2).trans rfl;have hfz39_0:=kF_ BK326.out 0;have hfz39_1:=kF_ BK326.out 1;have hfz39_2:=kF_ BK326.out 2;have hcz40_0 : w37.cell? ⟨gb318,0,none⟩ = some (.string a0_0):=(kC_ BK318.out 0).trans rfl;have hcz40_1 : w37.cell? ⟨gb318,1,none⟩ = some (.slice A0_1 l0_1.length c0_1):=(kC_ BK318.out 1).trans rfl;have hcz40_2 : w37.cell? ⟨gb318,2,none⟩ = some (.slice A0_2 l0_2.length c0_2):=(kC_ BK318.out 2).trans rfl;have hcz40_3 : w37.cell? ⟨gb318,3,none⟩ = some (.slice (some ad325) l0_3.length c0_3):=(kC_ BK318.out 3).trans rfl;have hfz40_0:=kF_ BK318.out 0;have hfz40_1:=kF_ BK318.out 1;have hfz40_2:=kF_ BK318.out 2;have hfz40_3:=kF_ BK318.out 3) | ((with_reducible refine gate_callee (f:=57) rfl ?_);refine goesL_ (some 45) rfl rfl Tryd.func57 (by kernel_rfl) rfl #[.agg #[.string a0_0,.slice A0_1 l0_1.length c0_1,.slice A0_2 l0_2.length c0_2,.slice (some ad325) l0_3.length c0_3],.slice A325_2 ((rd_T69 l0_3 x38_2).f2).length c325_2] rfl (by (try simp only [mA_,mC_,mN_]);first | done | rfl | (simp only [lD_,lT_];rfl)) ?_;(with_reducible refine (impl_partsOk.calls k2 a0_0 _ _ l0_1 _ _ l0_2 _ _ l0_3 _ _ ((rd_T69 l0_3 x38_2).f2) true _ ?side1 ?side2 ?side3 ?side4 ?side5 ?side6 ?side7 ?side8 A35.out).mono ?_);(case side1=>exact Kd.C_below HR0_1.out (by exact bZ_ HB));(case side2=>exact HC0_1.out);(case side3=>exact Kd.C_below HR0_2.out (by exact bZ_ HB));(case side4=>exact HC0_2.out);(case side5=>exact Kd.C_below HR0_3.out (by exact bZ_ HB));(case side6=>exact HC0_3.out);(case side7=>exact Kd.C_below HR325_2.out (by exact bZ_ HB));(case side8=>exact HC325_2.out);rintro e w41 ⟨rfl,hb⟩;refine ⟨_,rfl,?_⟩;have n0_:=aM_ (blk_below (g:=gb318) (o:=.cells #[.string a0_0,.slice A0_1 l0_1.length c0_1,.slice A0_2 l0_2.length c0_2,.slice (some ad325) l0_3.length c0_3] 35 (0,0)) (by exact kW_ BK318) hb);have n1_:=aM_ (blk_below (g:=gb326) (o:=.cells #[.string ((rd_T69 l0_3 x38_2).f0),.bool ((rd_T69 l0_3 x38_2).f1),.slice A325_2 ((rd_T69 l0_3 x38_2).f2).length c325_2] 69 (0,0)) (by (with_reducible repeat (first | refine kN_ ?_ _ | refine kD_ ?_ | refine kA_ ?_ _));refine kP_ (cs:=#[.string ((rd_T69 l0_3 x38_2).f0),.bool ((rd_T69 l0_3 x38_2).f1),.slice none 0 0]) ?_ 2 _ rfl;(with_reducible repeat (first | refine kN_ ?_ _ | refine kD_ ?_ | refine kA_ ?_ _));refine kP_ (cs:=#[.string ((rd_T69 l0_3 x38_2).f0),.bool false,.slice none 0 0]) ?_ 1 _ rfl;(with_reducible repeat (first | refine kN_ ?_ _ | refine kD_ ?_ | refine kA_ ?_ _));refine kP_ (cs:=#[.string (⟨#[]⟩ : ByteArray),.bool false,.slice none 0 0]) ?_ 0 _ rfl;exact kZ_ BK326) hb);have n2_:=aM_ (bT_ (by exact bZ_ HB) hb);clear BK318 BK326 HB;have BK318:=n0_;have BK326:=n1_;have HB:=n2_;clear n0_ n1_ n2_ hb))
              go_roundg k2
              case measure=>have:=HK1.out;have:=HK2.out;omega
              case rel=>exact ⟨(wrap64 (x38_2 + 1)),(by first | rfl | (simp;done) | (simp [*];done)),H', ⟨by have:=HK1.out;have:=HK2.out;omega⟩,⟨by exact kZ_ BK318⟩,⟨by exact bZ_ HB⟩⟩
             ·replace c36:=Bool.eq_false_iff.mpr c36
              subst c36
              have H1 : (some 5) = some r:=by rw [if_neg (show ¬ (false = true) by decide)] at H;exact H
              clear H
              have H:=H1
              clear H1
              obtain rfl:=Option.some.inj H
              have p325 : 0 ≤ (x38_2 : Int):=oT_ (by first | (with_reducible assumption) | assumption)
              have q325 : x38_2 < (l0_3.length : Int):=oT_ (by first | (with_reducible assumption) | assumption)
              obtain ⟨ad325,A325_2,c325_2,e325,hx325_0,hx325_1,hx325_2,hl325_2,hi325_2⟩:=at_T69 HR0_3.out x38_2 p325 q325
              cases e325
              replace hx325_0:=(HB.out.cell (wL_ w _ hx325_0)).trans hx325_0
              replace hx325_1:=(HB.out.cell (wL_ w _ hx325_1)).trans hx325_1
              replace hx325_2:=(HB.out.cell (wL_ w _ hx325_2)).trans hx325_2
              have HR325_2:=aM_ hi325_2
              have HC325_2:=aM_ hl325_2
              clear hi325_2 hl325_2
              replace p325:=eq_true p325
              replace q325:=eq_true q325
              go_wp2_with (first | ((with_reducible refine gate_dst (N:=6) rfl ?_);refine box_event ?hg (N:=6) ?hd (cs:=#[.string (⟨#[]⟩ : ByteArray),.bool false,.slice none 0 0]) (t:=69) ?hr ?_;(case hd=>rfl);(case hg=>rfl);(case hr=>first | (go_simp;done) | (go_simp;rfl));intro gb326 hg w42 hbox hb;have n0_:=aM_ (blk_below (g:=gb318) (o:=.cells #[.string a0_0,.slice A0_1 l0_1.length c0_1,.slice A0_2 l0_2.length c0_2,.slice (some ad325) l0_3.length c0_3] 35 (0,0)) (by exact kZ_ BK318) hb);have n1_:=aM_ (bT_ (by exact bZ_ HB) hb);have n2_:=aM_ (hbox);have n3_:=aM_ ((by rw [hg];exact (bS_ (by exact bZ_ HB)) : w.heap.size ≤ gb326));have n4_:=aM_ ((by rw [hg];exact (bS_ (by exact bZ_ HB)) : w.heap.size ≤ gb326));have n5_:=aM_ ((by rw [hg];exact nN_ (blk_lt (g:=gb318) (o:=.cells #[.string a0_0,.slice A0_1 l0_1.length c0_1,.slice A0_2 l0_2.length c0_2,.slice (some ad325) l0_3.length c0_3] 35 (0,0)) (by exact kZ_ BK318)) : gb318 ≠ gb326));have n6_:=aM_ ((by rw [hg];exact Nat.ne_of_gt (blk_lt (g:=gb318) (o:=.cells #[.string a0_0,.slice A0_1 l0_1.length c0_1,.slice A0_2 l0_2.length c0_2,.slice (some ad325) l0_3.length c0_3] 35 (0,0)) (by exact kZ_ BK318)) : gb326 ≠ gb318));clear BK318 HB;have BK318:=n0_;have HB:=n1_;have BK326:=n2_;have GW326:=n3_;have GE326:=n4_;have NB318_326:=n5_;have NB326_318:=n6_;clear n0_ n1_ n2_ n3_ n4_ n5_ n6_ hb hbox hg;have hnb43:=NB326_318.out;have hnc43:=NB318_326.out;have hcz44_0 : w42.cell? ⟨gb326,0,none⟩ = some (.string (⟨#[]⟩ : ByteArray)):=(kC_ BK326.out 0).trans rfl;have hcz44_1 : w42.cell? ⟨gb326,1,none⟩ = some (.bool false):=(kC_ BK326.out 1).trans rfl;have hcz44_2 : w42.cell? ⟨gb326,2,none⟩ = some (.slice none 0 0):=(kC_ BK326.out 2).trans rfl;have hfz44_0:=kF_ BK326.out 0;have hfz44_1:=kF_ BK326.out 1;have hfz44_2:=kF_ BK326.out 2;have hcz45_0 : w42.cell? ⟨gb318,0,none⟩ = some (.string a0_0):=(kC_ BK318.out 0).trans rfl;have hcz45_1 : w42.cell? ⟨gb318,1,none⟩ = some (.slice A0_1 l0_1.length c0_1):=(kC_ BK318.out 1).trans rfl;have hcz45_2 : w42.cell? ⟨gb318,2,none⟩ = some (.slice A0_2 l0_2.length c0_2):=(kC_ BK318.out 2).trans rfl;have hcz45_3 : w42.cell? ⟨gb318,3,none⟩ = some (.slice (some ad325) l0_3.length c0_3):=(kC_ BK318.out 3).trans rfl;have hfz45_0:=kF_ BK318.out 0;have hfz45_1:=kF_ BK318.out 1;have hfz45_2:=kF_ BK318.out 2;have hfz45_3:=kF_ BK318.out 3) | ((with_reducible refine gate_callee (f:=57) rfl ?_);refine goesL_ (some 45) rfl rfl Tryd.func57 (by kernel_rfl) rfl #[.agg #[.string a0_0,.slice A0_1 l0_1.length c0_1,.slice A0_2 l0_2.length c0_2,.slice (some ad325) l0_3.length c0_3],.slice A325_2 ((rd_T69 l0_3 x38_2).f2).length c325_2] rfl (by (try simp only [mA_,mC_,mN_]);first | done | rfl | (simp only [lD_,lT_];rfl)) ?_;(with_reducible refine (impl_partsOk.calls k2 a0_0 _ _ l0_1 _ _ l0_2 _ _ l0_3 _ _ ((rd_T69 l0_3 x38_2).f2) false _ ?side1 ?side2 ?side3 ?side4 ?side5 ?side6 ?side7 ?side8 A35.out).mono ?_);(case side1=>exact Kd.C_below HR0_1.out (by exact bZ_ HB));(case side2=>exact HC0_1.out);(case side3=>exact Kd.C_below HR0_2.out (by exact bZ_ HB));(case side4=>exact HC0_2.out);(case side5=>exact Kd.C_below HR0_3.out (by exact bZ_ HB));(case side6=>exact HC0_3.out);(case side7=>exact Kd.C_below HR325_2.out (by exact bZ_ HB));(case side8=>exact HC325_2.out);rintro e w46 ⟨rfl,hb⟩;refine ⟨_,rfl,?_⟩;have n0_:=aM_ (blk_below (g:=gb318) (o:=.cells #[.string a0_0,.slice A0_1 l0_1.length c0_1,.slice A0_2 l0_2.length c0_2,.slice (some ad325) l0_3.length c0_3] 35 (0,0)) (by exact kW_ BK318) hb);have n1_:=aM_ (blk_below (g:=gb326) (o:=.cells #[.string ((rd_T69 l0_3 x38_2).f0),.bool ((rd_T69 l0_3 x38_2).f1),.slice A325_2 ((rd_T69 l0_3 x38_2).f2).length c325_2] 69 (0,0)) (by (with_reducible repeat (first | refine kN_ ?_ _ | refine kD_ ?_ | refine kA_ ?_ _));refine kP_ (cs:=#[.string ((rd_T69 l0_3 x38_2).f0),.bool ((rd_T69 l0_3 x38_2).f1),.slice none 0 0]) ?_ 2 _ rfl;(with_reducible repeat (first | refine kN_ ?_ _ | refine kD_ ?_ | refine kA_ ?_ _));refine kP_ (cs:=#[.string ((rd_T69 l0_3 x38_2).f0),.bool false,.slice none 0 0]) ?_ 1 _ rfl;(with_reducible repeat (first | refine kN_ ?_ _ | refine kD_ ?_ | refine kA_ ?_ _));refine kP_ (cs:=#[.string (⟨#[]⟩ : ByteArray),.bool false,.slice none 0 0]) ?_ 0 _ rfl;exact kZ_ BK326) hb);have n2_:=aM_ (bT_ (by exact bZ_ HB) hb);clear BK318 BK326 HB;have BK318:=n0_;have BK326:=n1_;have HB:=n2_;clear n0_ n1_ n2_ hb))
              go_ret
              exact ⟨by first | rfl | (simp [errW_none,errW_some] <;> rfl) | (simp [*, errW_none,errW_some] <;> rfl),by exact bZ_ HB⟩
            ·rw [if_neg c34] at H
             exact absurd H (by simp)
           ·rw [if_neg c33] at H
            exact absurd H (by simp)
          ·rw [if_neg c32] at H
           have c32b0 : decide (x38_2 < (l0_3.length : Int)) = false:=decide_eq_false c32
           clear c32
           replace H:=oB_ H
           obtain ⟨t328,A470,H⟩:=H
           replace H : (if t328 = true then (impl_CheckDef.l2 k2 l0_2 (l0_2.length : Int) 0 a0_0 l0_1 l0_2 l0_3) else (some 5)) = some r:=H
           have A47:=aM_ A470
           clear A470
           by_cases c48 : t328 = true
           ·subst c48
            have H1 : (impl_CheckDef.l2 k2 l0_2 (l0_2.length : Int) 0 a0_0 l0_1 l0_2 l0_3) = some r:=by rw [if_pos rfl] at H;exact H
            clear H
            have H:=H1
            clear H1
            have H':=aM_ H
            clear H
            have hcz49_0 : wr.cell? ⟨gb318,0,none⟩ = some (.string a0_0):=(kC_ BK318.out 0).trans rfl
            have hcz49_1 : wr.cell? ⟨gb318,1,none⟩ = some (.slice A0_1 l0_1.length c0_1):=(kC_ BK318.out 1).trans rfl
            have hcz49_2 : wr.cell? ⟨gb318,2,none⟩ = some (.slice A0_2 l0_2.length c0_2):=(kC_ BK318.out 2).trans rfl
            have hcz49_3 : wr.cell? ⟨gb318,3,none⟩ = some (.slice A0_3 l0_3.length c0_3):=(kC_ BK318.out 3).trans rfl
            have hfz49_0:=kF_ BK318.out 0
            have hfz49_1:=kF_ BK318.out 1
            have hfz49_2:=kF_ BK318.out 2
            have hfz49_3:=kF_ BK318.out 3
            go_wp2_with (first | ((with_reducible refine gate_callee (f:=57) rfl ?_);refine goesL_ (some 51) rfl rfl Tryd.func57 (by kernel_rfl) rfl #[.agg #[.string a0_0,.slice A0_1 l0_1.length c0_1,.slice A0_2 l0_2.length c0_2,.slice A0_3 l0_3.length c0_3],.slice A0_2 l0_2.length c0_2] rfl (by (try simp only [mA_,mC_,mN_]);first | done | rfl | (simp only [lD_,lT_];rfl)) ?_;(with_reducible refine (impl_partsOk.calls k2 a0_0 _ _ l0_1 _ _ l0_2 _ _ l0_3 _ _ l0_2 true _ ?side1 ?side2 ?side3 ?side4 ?side5 ?side6 ?side7 ?side8 A47.out).mono ?_);(case side1=>exact cZ_ HR0_1 HB);(case side2=>exact HC0_1.out);(case side3=>exact cZ_ HR0_2 HB);(case side4=>exact HC0_2.out);(case side5=>exact cZ_ HR0_3 HB);(case side6=>exact HC0_3.out);(case side7=>exact cZ_ HR0_2 HB);(case side8=>exact HC0_2.out);rintro e w50 ⟨rfl,hb⟩;refine ⟨_,rfl,?_⟩;have n0_:=aM_ (blk_below (g:=gb318) (o:=.cells #[.string a0_0,.slice A0_1 l0_1.length c0_1,.slice A0_2 l0_2.length c0_2,.slice A0_3 l0_3.length c0_3] 35 (0,0)) (by exact kZ_ BK318) hb);have n1_:=aM_ (bT_ (by exact bZ_ HB) hb);clear BK318 HB;have BK318:=n0_;have HB:=n1_;clear n0_ n1_ hb;have hcz51_0 : w50.cell? ⟨gb318,0,none⟩ = some (.string a0_0):=(kC_ BK318.out 0).trans rfl;have hcz51_1 : w50.cell? ⟨gb318,1,none⟩ = some (.slice A0_1 l0_1.length c0_1):=(kC_ BK318.out 1).trans rfl;have hcz51_2 : w50.cell? ⟨gb318,2,none⟩ = some (.slice A0_2 l0_2.length c0_2):=(kC_ BK318.out 2).trans rfl;have hcz51_3 : w50.cell? ⟨gb318,3,none⟩ = some (.slice A0_3 l0_3.length c0_3):=(kC_ BK318.out 3).trans rfl;have hfz51_0:=kF_ BK318.out 0;have hfz51_1:=kF_ BK318.out 1;have hfz51_2:=kF_ BK318.out 2;have hfz51_3:=kF_ BK318.out 3))
            (try simp only [Act.put,sI_,sS_,sZ_])
            go_loopg [56] k2 (fun kq v56 w'=>∃ (x56_3 : Int),v56 = .int .i64 x56_3 ∧ Aside0 (impl_CheckDef.l2 kq l0_2 (l0_2.length : Int) x56_3 a0_0 l0_1 l0_2 l0_3 = some r) ∧ Aside0 (kq ≤ k2) ∧ Aside0 (w'.heap[gb318]? = some (.cells #[.string a0_0,(.slice A0_1 l0_1.length c0_1),(.slice A0_2 l0_2.length c0_2),(.slice A0_3 l0_3.length c0_3)] 35 (0,0))) ∧ Aside0 (Below w.heap.size w w'))
            case atStart=>exact ⟨(0),(by first | rfl | (simp;done) | (simp [*];done)),H', ⟨Nat.le_refl _⟩,⟨by exact kZ_ BK318⟩,⟨by exact bZ_ HB⟩⟩
            case round =>
             clear H'
             clear c32b0 hcz49_0 hcz49_1 hcz49_2 hcz49_3 hcz51_0 hcz51_1 hcz51_2 hcz51_3 hfz49_0 hfz49_1 hfz49_2 hfz49_3 hfz51_0 hfz51_1 hfz51_2 hfz51_3
             obtain ⟨x56_3,rfl,HA,HK3,BK318,HB⟩:=hrel
             cases gk with
             | zero=>exact absurd HA.out (by simp [impl_CheckDef.l2])
             | succ k3 =>
              have H:=HA.out
              clear HA
              simp only [impl_CheckDef.l2] at H
              by_cases c52 : x56_3 < (l0_2.length : Int)
              ·rw [if_pos c52] at H
               have c52b0 : decide (x56_3 < (l0_2.length : Int)) = true:=decide_eq_true c52
               clear c52
               by_cases c53 : 0 ≤ x56_3
               ·rw [if_pos c53] at H
                have c53b0 : decide (0 ≤ x56_3) = true:=decide_eq_true c53
                clear c53
                by_cases c54 : x56_3 < (l0_2.length : Int)
                ·rw [if_pos c54] at H
                 have c54b0 : decide (x56_3 < (l0_2.length : Int)) = true:=decide_eq_true c54
                 clear c54
                 by_cases c55 : 0 ≤ ((rd_T85 l0_2 x56_3).f0)
                 ·rw [if_pos c55] at H
                  have c55b0 : decide (0 ≤ ((rd_T85 l0_2 x56_3).f0)) = true:=decide_eq_true c55
                  clear c55
                  by_cases c56 : ((rd_T85 l0_2 x56_3).f0) < (l0_1.length : Int)
                  ·rw [if_pos c56] at H
                   have c56b0 : decide (((rd_T85 l0_2 x56_3).f0) < (l0_1.length : Int)) = true:=decide_eq_true c56
                   clear c56
                   obtain ⟨bq57,hbq57⟩ : ∃ b_ : Bool,b_ = ((rd_T82 l0_1 ((rd_T85 l0_2 x56_3).f0)).f2):=⟨_,rfl⟩
                   replace H : (if bq57 = true then (some 4) else (impl_CheckDef.l2 k3 l0_2 (l0_2.length : Int) (wrap64 (x56_3 + 1)) a0_0 l0_1 l0_2 l0_3)) = some r:=by rw [← hbq57] at H;exact H
                   have Nbq57:=aM_ hbq57
                   clear hbq57
                   by_cases c58 : bq57 = true
                   ·subst c58
                    have H1 : (some 4) = some r:=by rw [if_pos rfl] at H;exact H
                    clear H
                    have H:=H1
                    clear H1
                    obtain rfl:=Option.some.inj H
                    have p329 : 0 ≤ (x56_3 : Int):=oT_ (by first | (with_reducible assumption) | assumption)
                    have q329 : x56_3 < (l0_2.length : Int):=oT_ (by first | (with_reducible assumption) | assumption)
                    obtain ⟨ad329,e329,hx329_0,hx329_1⟩:=at_T85 HR0_2.out x56_3 p329 q329
                    (try rw [← Nbq57.out] at hx329_1)
                    cases e329
                    replace hx329_0:=(HB.out.cell (wL_ w _ hx329_0)).trans hx329_0
                    replace hx329_1:=(HB.out.cell (wL_ w _ hx329_1)).trans hx329_1
                    replace p329:=eq_true p329
                    replace q329:=eq_true q329
                    go_wp2_with (first | ((with_reducible refine gate_dst (N:=8) rfl ?_);refine box_event ?hg (N:=8) ?hd (cs:=#[.int .i64 0,.bool false]) (t:=85) ?hr ?_;(case hd=>rfl);(case hg=>rfl);(case hr=>first | (go_simp;done) | (go_simp;rfl));intro gb330 hg w59 hbox hb;have n0_:=aM_ (blk_below (g:=gb318) (o:=.cells #[.string a0_0,.slice A0_1 l0_1.length c0_1,.slice (some ad329) l0_2.length c0_2,.slice A0_3 l0_3.length c0_3] 35 (0,0)) (by exact kZ_ BK318) hb);have n1_:=aM_ (bT_ (by exact bZ_ HB) hb);have n2_:=aM_ (hbox);have n3_:=aM_ ((by rw [hg];exact (bS_ (by exact bZ_ HB)) : w.heap.size ≤ gb330));have n4_:=aM_ ((by rw [hg];exact (bS_ (by exact bZ_ HB)) : w.heap.size ≤ gb330));have n5_:=aM_ ((by rw [hg];exact nN_ (blk_lt (g:=gb318) (o:=.cells #[.string a0_0,.slice A0_1 l0_1.length c0_1,.slice (some ad329) l0_2.length c0_2,.slice A0_3 l0_3.length c0_3] 35 (0,0)) (by exact kZ_ BK318)) : gb318 ≠ gb330));have n6_:=aM_ ((by rw [hg];exact Nat.ne_of_gt (blk_lt (g:=gb318) (o:=.cells #[.string a0_0,.slice A0_1 l0_1.length c0_1,.slice (some ad329) l0_2.length c0_2,.slice A0_3 l0_3.length c0_3] 35 (0,0)) (by exact kZ_ BK318)) : gb330 ≠ gb318));clear BK318 HB;have BK318:=n0_;have HB:=n1_;have BK330:=n2_;have GW330:=n3_;have GE330:=n4_;have NB318_330:=n5_;have NB330_318:=n6_;clear n0_ n1_ n2_ n3_ n4_ n5_ n6_ hb hbox hg;have hnb60:=NB330_318.out;have hnc60:=NB318_330.out;have hcz61_0 : w59.cell? ⟨gb330,0,none⟩ = some (.int .i64 0):=(kC_ BK330.out 0).trans rfl;have hcz61_1 : w59.cell? ⟨gb330,1,none⟩ = some (.bool false):=(kC_ BK330.out 1).trans rfl;have hfz61_0:=kF_ BK330.out 0;have hfz61_1:=kF_ BK330.out 1;have hcz62_0 : w59.cell? ⟨gb318,0,none⟩ = some (.string a0_0):=(kC_ BK318.out 0).trans rfl;have hcz62_1 : w59.cell? ⟨gb318,1,none⟩ = some (.slice A0_1 l0_1.length c0_1):=(kC_ BK318.out 1).trans rfl;have hcz62_2 : w59.cell? ⟨gb318,2,none⟩ = some (.slice (some ad329) l0_2.length c0_2):=(kC_ BK318.out 2).trans rfl;have hcz62_3 : w59.cell? ⟨gb318,3,none⟩ = some (.slice A0_3 l0_3.length c0_3):=(kC_ BK318.out 3).trans rfl;have hfz62_0:=kF_ BK318.out 0;have hfz62_1:=kF_ BK318.out 1;have hfz62_2:=kF_ BK318.out 2;have hfz62_3:=kF_ BK318.out 3;have p331 : 0 ≤ (((rd_T85 l0_2 x56_3).f0) : Int):=oT_ (by first | (with_reducible assumption) | assumption);have q331 : ((rd_T85 l0_2 x56_3).f0) < (l0_1.length : Int):=oT_ (by first | (with_reducible assumption) | assumption);obtain ⟨ad331,e331,hx331_0,hx331_1,hx331_2⟩:=at_T82 HR0_1.out ((rd_T85 l0_2 x56_3).f0) p331 q331;(try rw [← Nbq57.out] at hx331_2);cases e331;have hn331_0 : ad331.block ≠ gb330:=nN_ (nL_ (by have:=wL_ _ _ hx331_0;first | rwa [add_block] at this | exact this) GW330.out);have hn331_1 : ad331.block ≠ gb330:=nN_ (nL_ (by have:=wL_ _ _ hx331_0;first | rwa [add_block] at this | exact this) GW330.out);replace hx331_0:=(HB.out.cell (wL_ w _ hx331_0)).trans hx331_0;replace hx331_1:=(HB.out.cell (wL_ w _ hx331_1)).trans hx331_1;replace hx331_2:=(HB.out.cell (wL_ w _ hx331_2)).trans hx331_2;replace hx331_0:=(cell_far (p:=⟨gb330,0,none⟩) (by first | (rw [add_block];exact hn331_0) | (show (Addr.add _ _).block ≠ _;rw [add_block];exact hn331_0) | exact hn331_0) (.int .i64 ((rd_T85 l0_2 x56_3).f0))).trans hx331_0;replace hx331_1:=(cell_far (p:=⟨gb330,0,none⟩) (by first | (rw [add_block];exact hn331_0) | (show (Addr.add _ _).block ≠ _;rw [add_block];exact hn331_0) | exact hn331_0) (.int .i64 ((rd_T85 l0_2 x56_3).f0))).trans hx331_1;replace hx331_2:=(cell_far (p:=⟨gb330,0,none⟩) (by first | (rw [add_block];exact hn331_0) | (show (Addr.add _ _).block ≠ _;rw [add_block];exact hn331_0) | exact hn331_0) (.int .i64 ((rd_T85 l0_2 x56_3).f0))).trans hx331_2;replace hx331_0:=(cell_far (p:=⟨gb330,1,none⟩) (by first | (rw [add_block];exact hn331_1) | (show (Addr.add _ _).block ≠ _;rw [add_block];exact hn331_1) | exact hn331_1) (.bool ((rd_T85 l0_2 x56_3).f1))).trans hx331_0;replace hx331_1:=(cell_far (p:=⟨gb330,1,none⟩) (by first | (rw [add_block];exact hn331_1) | (show (Addr.add _ _).block ≠ _;rw [add_block];exact hn331_1) | exact hn331_1) (.bool ((rd_T85 l0_2 x56_3).f1))).trans hx331_1;replace hx331_2:=(cell_far (p:=⟨gb330,1,none⟩) (by first | (rw [add_block];exact hn331_1) | (show (Addr.add _ _).block ≠ _;rw [add_block];exact hn331_1) | exact hn331_1) (.bool ((rd_T85 l0_2 x56_3).f1))).trans hx331_2;clear hn331_0 hn331_1;replace p331:=eq_true p331;replace q331:=eq_true q331))
                    go_ret
                    exact ⟨by first | rfl | (simp [errW_none,errW_some] <;> rfl) | (simp [*, errW_none,errW_some] <;> rfl),by exact bZ_ HB⟩
                   ·replace c58:=Bool.eq_false_iff.mpr c58
                    subst c58
                    have H1 : (impl_CheckDef.l2 k3 l0_2 (l0_2.length : Int) (wrap64 (x56_3 + 1)) a0_0 l0_1 l0_2 l0_3) = some r:=by rw [if_neg (show ¬ (false = true) by decide)] at H;exact H
                    clear H
                    have H:=H1
                    clear H1
                    have H':=aM_ H
                    clear H
                    have p329 : 0 ≤ (x56_3 : Int):=oT_ (by first | (with_reducible assumption) | assumption)
                    have q329 : x56_3 < (l0_2.length : Int):=oT_ (by first | (with_reducible assumption) | assumption)
                    obtain ⟨ad329,e329,hx329_0,hx329_1⟩:=at_T85 HR0_2.out x56_3 p329 q329
                    (try rw [← Nbq57.out] at hx329_1)
                    cases e329
                    replace hx329_0:=(HB.out.cell (wL_ w _ hx329_0)).trans hx329_0
                    replace hx329_1:=(HB.out.cell (wL_ w _ hx329_1)).trans hx329_1
                    replace p329:=eq_true p329
                    replace q329:=eq_true q329
                    go_wp2_with (first | ((with_reducible refine gate_dst (N:=8) rfl ?_);refine box_event ?hg (N:=8) ?hd (cs:=#[.int .i64 0,.bool false]) (t:=85) ?hr ?_;(case hd=>rfl);(case hg=>rfl);(case hr=>first | (go_simp;done) | (go_simp;rfl));intro gb330 hg w63 hbox hb;have n0_:=aM_ (blk_below (g:=gb318) (o:=.cells #[.string a0_0,.slice A0_1 l0_1.length c0_1,.slice (some ad329) l0_2.length c0_2,.slice A0_3 l0_3.length c0_3] 35 (0,0)) (by exact kZ_ BK318) hb);have n1_:=aM_ (bT_ (by exact bZ_ HB) hb);have n2_:=aM_ (hbox);have n3_:=aM_ ((by rw [hg];exact (bS_ (by exact bZ_ HB)) : w.heap.size ≤ gb330));have n4_:=aM_ ((by rw [hg];exact (bS_ (by exact bZ_ HB)) : w.heap.size ≤ gb330));have n5_:=aM_ ((by rw [hg];exact nN_ (blk_lt (g:=gb318) (o:=.cells #[.string a0_0,.slice A0_1 l0_1.length c0_1,.slice (some ad329) l0_2.length c0_2,.slice A0_3 l0_3.length c0_3] 35 (0,0)) (by exact kZ_ BK318)) : gb318 ≠ gb330));have n6_:=aM_ ((by rw [hg];exact Nat.ne_of_gt (blk_lt (g:=gb318) (o:=.cells #[.string a0_0,.slice A0_1 l0_1.length c0_1,.slice (some ad329) l0_2.length c0_2,.slice A0_3 l0_3.length c0_3] 35 (0,0)) (by exact kZ_ BK318)) : gb330 ≠ gb318));clear BK318 HB;have BK318:=n0_;have HB:=n1_;have BK330:=n2_;have GW330:=n3_;have GE330:=n4_;have NB318_330:=n5_;have NB330_318:=n6_;clear n0_ n1_ n2_ n3_ n4_ n5_ n6_ hb hbox hg;have hnb64:=NB330_318.out;have hnc64:=NB318_330.out;have hcz65_0 : w63.cell? ⟨gb330,0,none⟩ = some (.int .i64 0):=(kC_ BK330.out 0).trans rfl;have hcz65_1 : w63.cell? ⟨gb330,1,none⟩ = some (.bool false):=(kC_ BK330.out 1).trans rfl;have hfz65_0:=kF_ BK330.out 0;have hfz65_1:=kF_ BK330.out 1;have hcz66_0 : w63.cell? ⟨gb318,0,none⟩ = some (.string a0_0):=(kC_ BK318.out 0).trans rfl;have hcz66_1 : w63.cell? ⟨gb318,1,none⟩ = some (.slice A0_1 l0_1.length c0_1):=(kC_ BK318.out 1).trans rfl;have hcz66_2 : w63.cell? ⟨gb318,2,none⟩ = some (.slice (some ad329) l0_2.length c0_2):=(kC_ BK318.out 2).trans rfl;have hcz66_3 : w63.cell? ⟨gb318,3,none⟩ = some (.slice A0_3 l0_3.length c0_3):=(kC_ BK318.out 3).trans rfl;have hfz66_0:=kF_ BK318.out 0;have hfz66_1:=kF_ BK318.out 1;have hfz66_2:=kF_ BK318.out 2;have hfz66_3:=kF_ BK318.out 3;have p331 : 0 ≤ (((rd_T85 l0_2 x56_3).f0) : Int):=oT_ (by first | (with_reducible assumption) | assumption);have q331 : ((rd_T85 l0_2 x56_3).f0) < (l0_1.length : Int):=oT_ (by first | (with_reducible assumption) | assumption);obtain ⟨ad331,e331,hx331_0,hx331_1,hx331_2⟩:=at_T82 HR0_1.out ((rd_T85 l0_2 x56_3).f0) p331 q331;(try rw [← Nbq57.out] at hx331_2);cases e331;have hn331_0 : ad331.block ≠ gb330:=nN_ (nL_ (by have:=wL_ _ _ hx331_0;first | rwa [add_block] at this | exact this) GW330.out);have hn331_1 : ad331.block ≠ gb330:=nN_ (nL_ (by have:=wL_ _ _ hx331_0;first | rwa [add_block] at this | exact this) GW330.out);replace hx331_0:=(HB.out.cell (wL_ w _ hx331_0)).trans hx331_0;replace hx331_1:=(HB.out.cell (wL_ w _ hx331_1)).trans hx331_1;replace hx331_2:=(HB.out.cell (wL_ w _ hx331_2)).trans hx331_2;replace hx331_0:=(cell_far (p:=⟨gb330,0,none⟩) (by first | (rw [add_block];exact hn331_0) | (show (Addr.add _ _).block ≠ _;rw [add_block];exact hn331_0) | exact hn331_0) (.int .i64 ((rd_T85 l0_2 x56_3).f0))).trans hx331_0;replace hx331_1:=(cell_far (p:=⟨gb330,0,none⟩) (by first | (rw [add_block];exact hn331_0) | (show (Addr.add _ _).block ≠ _;rw [add_block];exact hn331_0) | exact hn331_0) (.int .i64 ((rd_T85 l0_2 x56_3).f0))).trans hx331_1;replace hx331_2:=(cell_far (p:=⟨gb330,0,none⟩) (by first | (rw [add_block];exact hn331_0) | (show (Addr.add _ _).block ≠ _;rw [add_block];exact hn331_0) | exact hn331_0) (.int .i64 ((rd_T85 l0_2 x56_3).f0))).trans hx331_2;replace hx331_0:=(cell_far (p:=⟨gb330,1,none⟩) (by first | (rw [add_block];exact hn331_1) | (show (Addr.add _ _).block ≠ _;rw [add_block];exact hn331_1) | exact hn331_1) (.bool ((rd_T85 l0_2 x56_3).f1))).trans hx331_0;replace hx331_1:=(cell_far (p:=⟨gb330,1,none⟩) (by first | (rw [add_block];exact hn331_1) | (show (Addr.add _ _).block ≠ _;rw [add_block];exact hn331_1) | exact hn331_1) (.bool ((rd_T85 l0_2 x56_3).f1))).trans hx331_1;replace hx331_2:=(cell_far (p:=⟨gb330,1,none⟩) (by first | (rw [add_block];exact hn331_1) | (show (Addr.add _ _).block ≠ _;rw [add_block];exact hn331_1) | exact hn331_1) (.bool ((rd_T85 l0_2 x56_3).f1))).trans hx331_2;clear hn331_0 hn331_1;replace p331:=eq_true p331;replace q331:=eq_true q331))
                    go_roundg k3
                    case measure=>have:=HK1.out;have:=HK2.out;have:=HK3.out;omega
                    case rel=>exact ⟨(wrap64 (x56_3 + 1)),(by first | rfl | (simp;done) | (simp [*];done)),H', ⟨by have:=HK1.out;have:=HK2.out;have:=HK3.out;omega⟩,⟨by exact kW_ BK318⟩,⟨by exact bZ_ HB⟩⟩
                  ·rw [if_neg c56] at H
                   exact absurd H (by simp)
                 ·rw [if_neg c55] at H
                  exact absurd H (by simp)
                ·rw [if_neg c54] at H
                 exact absurd H (by simp)
               ·rw [if_neg c53] at H
                exact absurd H (by simp)
              ·rw [if_neg c52] at H
               have c52b0 : decide (x56_3 < (l0_2.length : Int)) = false:=decide_eq_false c52
               clear c52
               obtain rfl:=Option.some.inj H
               go_wp2
               go_ret
               exact ⟨by first | rfl | (simp [errW_none,errW_some] <;> rfl) | (simp [*, errW_none,errW_some] <;> rfl),by exact bZ_ HB⟩
           ·replace c48:=Bool.eq_false_iff.mpr c48
            subst c48
            have H1 : (some 5) = some r:=by rw [if_neg (show ¬ (false = true) by decide)] at H;exact H
            clear H
            have H:=H1
            clear H1
            obtain rfl:=Option.some.inj H
            have hcz67_0 : wr.cell? ⟨gb318,0,none⟩ = some (.string a0_0):=(kC_ BK318.out 0).trans rfl
            have hcz67_1 : wr.cell? ⟨gb318,1,none⟩ = some (.slice A0_1 l0_1.length c0_1):=(kC_ BK318.out 1).trans rfl
            have hcz67_2 : wr.cell? ⟨gb318,2,none⟩ = some (.slice A0_2 l0_2.length c0_2):=(kC_ BK318.out 2).trans rfl
            have hcz67_3 : wr.cell? ⟨gb318,3,none⟩ = some (.slice A0_3 l0_3.length c0_3):=(kC_ BK318.out 3).trans rfl
            have hfz67_0:=kF_ BK318.out 0
            have hfz67_1:=kF_ BK318.out 1
            have hfz67_2:=kF_ BK318.out 2
            have hfz67_3:=kF_ BK318.out 3
            go_wp2_with (first | ((with_reducible refine gate_callee (f:=57) rfl ?_);refine goesL_ (some 51) rfl rfl Tryd.func57 (by kernel_rfl) rfl #[.agg #[.string a0_0,.slice A0_1 l0_1.length c0_1,.slice A0_2 l0_2.length c0_2,.slice A0_3 l0_3.length c0_3],.slice A0_2 l0_2.length c0_2] rfl (by (try simp only [mA_,mC_,mN_]);first | done | rfl | (simp only [lD_,lT_];rfl)) ?_;(with_reducible refine (impl_partsOk.calls k2 a0_0 _ _ l0_1 _ _ l0_2 _ _ l0_3 _ _ l0_2 false _ ?side1 ?side2 ?side3 ?side4 ?side5 ?side6 ?side7 ?side8 A47.out).mono ?_);(case side1=>exact cZ_ HR0_1 HB);(case side2=>exact HC0_1.out);(case side3=>exact cZ_ HR0_2 HB);(case side4=>exact HC0_2.out);(case side5=>exact cZ_ HR0_3 HB);(case side6=>exact HC0_3.out);(case side7=>exact cZ_ HR0_2 HB);(case side8=>exact HC0_2.out);rintro e w68 ⟨rfl,hb⟩;refine ⟨_,rfl,?_⟩;have n0_:=aM_ (blk_below (g:=gb318) (o:=.cells #[.string a0_0,.slice A0_1 l0_1.length c0_1,.slice A0_2 l0_2.length c0_2,.slice A0_3 l0_3.length c0_3] 35 (0,0)) (by exact kZ_ BK318) hb);have n1_:=aM_ (bT_ (by exact bZ_ HB) hb);clear BK318 HB;have BK318:=n0_;have HB:=n1_;clear n0_ n1_ hb))
            go_ret
            exact ⟨by first | rfl | (simp [errW_none,errW_some] <;> rfl) | (simp [*, errW_none,errW_some] <;> rfl),by exact bZ_ HB⟩
  ·replace c5:=Bool.eq_false_iff.mpr c5
   subst c5
   have H1 : (some 2) = some r:=by rw [if_neg (show ¬ (false = true) by decide)] at H;exact H
   clear H
   have H:=H1
   clear H1
   obtain rfl:=Option.some.inj H
   go_enter Tryd.func21,Tryd.ntmps21
   go_wp2_with (first | ((with_reducible refine gate_dst (N:=1) rfl ?_);refine box_event ?hg (N:=1) ?hd (cs:=#[.string a0_0,.slice A0_1 l0_1.length c0_1,.slice A0_2 l0_2.length c0_2,.slice A0_3 l0_3.length c0_3]) (t:=35) ?hr ?_;(case hd=>rfl);(case hg=>rfl);(case hr=>first | (go_simp;done) | (go_simp;rfl));intro gb318 hg w69 hbox hb;have n0_:=aM_ (bT_ (by exact bZ_ HB) hb);have n1_:=aM_ (hbox);have n2_:=aM_ ((by rw [hg];exact (bS_ (by exact bZ_ HB)) : w.heap.size ≤ gb318));have n3_:=aM_ ((by rw [hg];exact (bS_ (by exact bZ_ HB)) : w.heap.size ≤ gb318));clear HB;have HB:=n0_;have BK318:=n1_;have GW318:=n2_;have GE318:=n3_;clear n0_ n1_ n2_ n3_ hb hbox hg;have hcz70_0 : w69.cell? ⟨gb318,0,none⟩ = some (.string a0_0):=(kC_ BK318.out 0).trans rfl;have hcz70_1 : w69.cell? ⟨gb318,1,none⟩ = some (.slice A0_1 l0_1.length c0_1):=(kC_ BK318.out 1).trans rfl;have hcz70_2 : w69.cell? ⟨gb318,2,none⟩ = some (.slice A0_2 l0_2.length c0_2):=(kC_ BK318.out 2).trans rfl;have hcz70_3 : w69.cell? ⟨gb318,3,none⟩ = some (.slice A0_3 l0_3.length c0_3):=(kC_ BK318.out 3).trans rfl;have hfz70_0:=kF_ BK318.out 0;have hfz70_1:=kF_ BK318.out 1;have hfz70_2:=kF_ BK318.out 2;have hfz70_3:=kF_ BK318.out 3) | ((with_reducible refine gate_callee (f:=54) rfl ?_);refine goesL_ (some 10) rfl rfl Tryd.func54 (by kernel_rfl) rfl #[.agg #[.string a0_0,.slice A0_1 l0_1.length c0_1,.slice A0_2 l0_2.length c0_2,.slice A0_3 l0_3.length c0_3]] rfl (by (try simp only [mA_,mC_,mN_]);first | done | rfl | (simp only [lD_,lT_];rfl)) ?_;(with_reducible refine (impl_namesOk.calls k a0_0 _ _ l0_1 _ _ l0_2 _ _ l0_3 true _ ?side1 ?side2 ?side3 ?side4 ?side5 ?side6 A2.out).mono ?_);(case side1=>exact cZ_ HR0_1 HB);(case side2=>exact HC0_1.out);(case side3=>exact cZ_ HR0_2 HB);(case side4=>exact HC0_2.out);(case side5=>exact cZ_ HR0_3 HB);(case side6=>exact HC0_3.out);rintro e w71 ⟨rfl,hb⟩;refine ⟨_,rfl,?_⟩;have n0_:=aM_ (blk_below (g:=gb318) (o:=.cells #[.string a0_0,.slice A0_1 l0_1.length c0_1,.slice A0_2 l0_2.length c0_2,.slice A0_3 l0_3.length c0_3] 35 (0,0)) (by exact kZ_ BK318) hb);have n1_:=aM_ (bT_ (by exact bZ_ HB) hb);clear BK318 HB;have BK318:=n0_;have HB:=n1_;clear n0_ n1_ hb;have hcz72_0 : w71.cell? ⟨gb318,0,none⟩ = some (.string a0_0):=(kC_ BK318.out 0).trans rfl;have hcz72_1 : w71.cell? ⟨gb318,1,none⟩ = some (.slice A0_1 l0_1.length c0_1):=(kC_ BK318.out 1).trans rfl;have hcz72_2 : w71.cell? ⟨gb318,2,none⟩ = some (.slice A0_2 l0_2.length c0_2):=(kC_ BK318.out 2).trans rfl;have hcz72_3 : w71.cell? ⟨gb318,3,none⟩ = some (.slice A0_3 l0_3.length c0_3):=(kC_ BK318.out 3).trans rfl;have hfz72_0:=kF_ BK318.out 0;have hfz72_1:=kF_ BK318.out 1;have hfz72_2:=kF_ BK318.out 2;have hfz72_3:=kF_ BK318.out 3) | ((with_reducible refine gate_callee (f:=55) rfl ?_);refine goesL_ (some 15) rfl rfl Tryd.func55 (by kernel_rfl) rfl #[.int .i64 (l0_1.length : Int),.int .i64 1,.int .i64 6] rfl (by (try simp only [mA_,mC_,mN_]);first | done | rfl | (simp only [lD_,lT_];rfl)) ?_;(with_reducible refine (impl_in.calls (l0_1.length : Int) 1 6 false _ A4.out).mono ?_);rintro e w' ⟨rfl,⟨nd,rfl⟩⟩;refine ⟨_,rfl,?_⟩))
   go_ret
   exact ⟨by first | rfl | (simp [errW_none,errW_some] <;> rfl) | (simp [*, errW_none,errW_some] <;> rfl),by exact bZ_ HB⟩
 ·replace c3:=Bool.eq_false_iff.mpr c3
  subst c3
  have H1 : (some 1) = some r:=by rw [if_neg (show ¬ (false = true) by decide)] at H;exact H
  clear H
  have H:=H1
  clear H1
  obtain rfl:=Option.some.inj H
  go_enter Tryd.func21,Tryd.ntmps21
  go_wp2_with (first | ((with_reducible refine gate_dst (N:=1) rfl ?_);refine box_event ?hg (N:=1) ?hd (cs:=#[.string a0_0,.slice A0_1 l0_1.length c0_1,.slice A0_2 l0_2.length c0_2,.slice A0_3 l0_3.length c0_3]) (t:=35) ?hr ?_;(case hd=>rfl);(case hg=>rfl);(case hr=>first | (go_simp;done) | (go_simp;rfl));intro gb318 hg w73 hbox hb;have n0_:=aM_ (bT_ (by exact bZ_ HB) hb);have n1_:=aM_ (hbox);have n2_:=aM_ ((by rw [hg];exact (bS_ (by exact bZ_ HB)) : w.heap.size ≤ gb318));have n3_:=aM_ ((by rw [hg];exact (bS_ (by exact bZ_ HB)) : w.heap.size ≤ gb318));clear HB;have HB:=n0_;have BK318:=n1_;have GW318:=n2_;have GE318:=n3_;clear n0_ n1_ n2_ n3_ hb hbox hg;have hcz74_0 : w73.cell? ⟨gb318,0,none⟩ = some (.string a0_0):=(kC_ BK318.out 0).trans rfl;have hcz74_1 : w73.cell? ⟨gb318,1,none⟩ = some (.slice A0_1 l0_1.length c0_1):=(kC_ BK318.out 1).trans rfl;have hcz74_2 : w73.cell? ⟨gb318,2,none⟩ = some (.slice A0_2 l0_2.length c0_2):=(kC_ BK318.out 2).trans rfl;have hcz74_3 : w73.cell? ⟨gb318,3,none⟩ = some (.slice A0_3 l0_3.length c0_3):=(kC_ BK318.out 3).trans rfl;have hfz74_0:=kF_ BK318.out 0;have hfz74_1:=kF_ BK318.out 1;have hfz74_2:=kF_ BK318.out 2;have hfz74_3:=kF_ BK318.out 3) | ((with_reducible refine gate_callee (f:=54) rfl ?_);refine goesL_ (some 10) rfl rfl Tryd.func54 (by kernel_rfl) rfl #[.agg #[.string a0_0,.slice A0_1 l0_1.length c0_1,.slice A0_2 l0_2.length c0_2,.slice A0_3 l0_3.length c0_3]] rfl (by (try simp only [mA_,mC_,mN_]);first | done | rfl | (simp only [lD_,lT_];rfl)) ?_;(with_reducible refine (impl_namesOk.calls k a0_0 _ _ l0_1 _ _ l0_2 _ _ l0_3 false _ ?side1 ?side2 ?side3 ?side4 ?side5 ?side6 A2.out).mono ?_);(case side1=>exact cZ_ HR0_1 HB);(case side2=>exact HC0_1.out);(case side3=>exact cZ_ HR0_2 HB);(case side4=>exact HC0_2.out);(case side5=>exact cZ_ HR0_3 HB);(case side6=>exact HC0_3.out);rintro e w75 ⟨rfl,hb⟩;refine ⟨_,rfl,?_⟩;have n0_:=aM_ (blk_below (g:=gb318) (o:=.cells #[.string a0_0,.slice A0_1 l0_1.length c0_1,.slice A0_2 l0_2.length c0_2,.slice A0_3 l0_3.length c0_3] 35 (0,0)) (by exact kZ_ BK318) hb);have n1_:=aM_ (bT_ (by exact bZ_ HB) hb);clear BK318 HB;have BK318:=n0_;have HB:=n1_;clear n0_ n1_ hb))
  go_ret
  exact ⟨by first | rfl | (simp [errW_none,errW_some] <;> rfl) | (simp [*, errW_none,errW_some] <;> rfl),by exact bZ_ HB⟩
def joinS (l : List ByteArray) (s : ByteArray) : ByteArray:=⟨(Lib.join (l.map (·.data.toList)) s.data.toList).toArray⟩
def strings_Join.f (a0 : List ByteArray) (a1 : ByteArray) : Option ByteArray:=if a0.length ≤ 140737488355328 ∧ (joinS a0 a1).size ≤ 140737488355328 then some (joinS a0 a1) else none
theorem strings_Join.calls (A0 : Option Addr) (c0 : Nat) (l0 : List ByteArray) (a1 : ByteArray) (r : ByteArray) (w : World) (hr0 : Kd.C Kd.string w A0 l0.length l0) (hc0 : l0.length ≤ c0) (h : strings_Join.f l0 a1 = some r) :
  Calls Tryd.prog 111 #[.slice A0 l0.length c0,.string a1] w fun e w'=>e = .returned (.string r) ∧ Below w.heap.size w w':=by
 unfold strings_Join.f at h
 by_cases hb : l0.length ≤ 140737488355328 ∧ (joinS l0 a1).size ≤ 140737488355328
 ·rw [if_pos hb] at h
  obtain rfl:=Option.some.inj h
  rcases Nat.eq_zero_or_pos l0.length with h0 | h0
  ·obtain rfl:=List.eq_nil_of_length_eq_zero h0
   exact (Tryd.strings_Join_none A0 c0 a1 w).mono fun e w' ⟨he,hw⟩=>⟨he,hw ▸ Below.refl _ _⟩
  ·obtain ⟨ad,rfl,hcell⟩:=hr0.2.2 h0
   have hc : ∀ (j : Nat) x,l0[j]? = some x → w.cell? (ad.add j) = some (.string x):=by
    intro j x hx
    obtain ⟨c,hl,hR,hcc⟩:=hcell j x hx
    have hR' : c = [.string x]:=hR
    have h1:=hcc 0 (.string x) (by rw [hR'];rfl)
    rw [show j * (Kd.string).sz + 0 = j from Nat.mul_one j] at h1
    exact h1
   obtain ⟨bk,o,sp⟩:=ad
   have z:=hc 0 _ (List.getElem?_eq_getElem h0)
   have z1 : w.cell? ⟨bk,o,sp⟩ = some (.string l0[0]):=by simpa [Addr.add] using z
   have hbk : bk < w.heap.size:=wL_ _ _ z1
   cases sp with
   | some s =>
    exfalso
    unfold World.cell? at z1
    split at z1 <;> simp at z1
   | none =>
    refine Tryd.strings_Join bk o c0 l0 a1 w (fun j x hx=>?_) hbk hb.1 hc0 ?_
    ·have y:=hc j x hx
     rwa [show (⟨bk,o,none⟩ : Addr).add j = ⟨bk,o + j,none⟩ from by unfold Addr.add;split <;> simp_all] at y
    ·have y:=hb.2
     simpa [joinS,ByteArray.size] using y
 ·rw [if_neg hb] at h
  cases h
end Go.Proofs.YtipehkeabnfngaaDoor.PFnExactDefsText
