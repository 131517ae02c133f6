import Derived.Test.YtipehkeabnfngaaDoorZDSPFnExactDefsTextx0
import Derived.Test.YtipehkeabnfngaaDoorZDSPFnExactDefsTextx11
namespace Go.Proofs.YtipehkeabnfngaaDoor.PFnExactDefsText
open Go.RowKit Go.Proofs.YtipehkeabnfngaaDoorW.PrintWords Go.Proofs.YtipehkeabnfngaaDoorW.PrintLast Go.Proofs.YtipehkeabnfngaaDoorW.PrintMore Go.Proofs.YtipehkeabnfngaaDoor.Xtra
attribute [local go_sem] max2_int min2_int max_two min_two max_three min_three max_four min_four str_leq str_gtr str_geq setCell_drewN cell_set2 cell_set3   -- for this text's walks alone
set_option linter.unusedVariables false
set_option linter.unusedSimpArgs false
mutual
def impl_partsOk.l0 : Nat → List (S85) → List (S85) → Int → Int → ByteArray → List (S82) → List (S85) → List (S69) → Option (Bool)
 | 0,_,_,_,_,_,_,_,_=>none
 | k + 1,x1,x9,x10,x11,x308000,x308001,x308002,x308003=>if x11 < x10 then (if 0 ≤ x11 then (if x11 < (x9.length : Int) then ((impl_in.f ((rd_T85 x9 x11).f0) 0 (wrap64 ((x308001.length : Int) - 1))).bind fun t311=>(if t311 = true then (if x11 ≤ (x1.length : Int) then ((some (x1.take (x11 : Int).toNat : List (S85))).bind fun y312=>(impl_partsOk.l1 k x1 x9 x10 x11 y312 (y312.length : Int) 0 x308000 x308001 x308002 x308003 ((rd_T85 x9 x11).f0) ((rd_T85 x9 x11).f1))) else (none)) else (some false))) else (none)) else (none)) else ((impl_in.f (x1.length : Int) 1 2).bind fun t308=>(some t308))
def impl_partsOk.l1 : Nat → List (S85) → List (S85) → Int → Int → List (S85) → Int → Int → ByteArray → List (S82) → List (S85) → List (S69) → Int → Bool → Option (Bool)
 | 0,_,_,_,_,_,_,_,_,_,_,_,_,_=>none
 | k + 1,x1,x9,x10,x11,x26,x27,x28,x308000,x308001,x308002,x308003,x311000,x311001=>if x28 < x27 then (if 0 ≤ x28 then (if x28 < (x26.length : Int) then (if ((rd_T85 x26 x28).f0) = x311000 then (some false) else (impl_partsOk.l1 k x1 x9 x10 x11 x26 x27 (wrap64 (x28 + 1)) x308000 x308001 x308002 x308003 x311000 x311001)) else (none)) else (none)) else (impl_partsOk.l0 k x1 x9 x10 (wrap64 (x11 + 1)) x308000 x308001 x308002 x308003)
end
def impl_partsOk.f (k : Nat) (a0_0 : ByteArray) (l0_1 : List (S82)) (l0_2 : List (S85)) (l0_3 : List (S69)) (l1 : List (S85)) : Option (Bool):=impl_partsOk.l0 k l1 l1 (l1.length : Int) 0 a0_0 l0_1 l0_2 l0_3
theorem impl_partsOk.mono_l : ∀ k,(∀ y0 y1 y2 y3 y4 y5 y6 y7,LeO (impl_partsOk.l0 k y0 y1 y2 y3 y4 y5 y6 y7) (impl_partsOk.l0 (k + 1) y0 y1 y2 y3 y4 y5 y6 y7)) ∧ (∀ y0 y1 y2 y3 y4 y5 y6 y7 y8 y9 y10 y11 y12,LeO (impl_partsOk.l1 k y0 y1 y2 y3 y4 y5 y6 y7 y8 y9 y10 y11 y12) (impl_partsOk.l1 (k + 1) y0 y1 y2 y3 y4 y5 y6 y7 y8 y9 y10 y11 y12))
 | 0=>⟨fun _ _ _ _ _ _ _ _ r h=>by simp [impl_partsOk.l0] at h,fun _ _ _ _ _ _ _ _ _ _ _ _ _ r h=>by simp [impl_partsOk.l1] at h⟩
 | k + 1=>by
  obtain ⟨ih0,ih1⟩:=impl_partsOk.mono_l k
  refine ⟨?_,?_⟩
  ·intro y0 y1 y2 y3 y4 y5 y6 y7
   unfold impl_partsOk.l0
   repeat' first
   | (with_reducible exact ih0 _ _ _ _ _ _ _ _)
   | (with_reducible exact ih1 _ _ _ _ _ _ _ _ _ _ _ _ _)
   | (with_reducible exact LeO.refl _)
   | (with_reducible exact LeO.none _)
   | (with_reducible refine LeO.ite ?_ ?_)
   | (with_reducible refine LeO.bind ?_ (fun _=>?_))
   | exact ih0 _ _ _ _ _ _ _ _
   | exact ih1 _ _ _ _ _ _ _ _ _ _ _ _ _
   | exact LeO.none _
   | refine LeO.ite ?_ ?_
   | refine LeO.bind ?_ (fun _=>?_)
  ·intro y0 y1 y2 y3 y4 y5 y6 y7 y8 y9 y10 y11 y12
   unfold impl_partsOk.l1
   repeat' first
   | (with_reducible exact ih0 _ _ _ _ _ _ _ _)
   | (with_reducible exact ih1 _ _ _ _ _ _ _ _ _ _ _ _ _)
   | (with_reducible exact LeO.refl _)
   | (with_reducible exact LeO.none _)
   | (with_reducible refine LeO.ite ?_ ?_)
   | (with_reducible refine LeO.bind ?_ (fun _=>?_))
   | exact ih0 _ _ _ _ _ _ _ _
   | exact ih1 _ _ _ _ _ _ _ _ _ _ _ _ _
   | exact LeO.none _
   | refine LeO.ite ?_ ?_
   | refine LeO.bind ?_ (fun _=>?_)
theorem impl_partsOk.mono : ∀ a0 a1 a2 a3 a4 k,LeO (impl_partsOk.f k a0 a1 a2 a3 a4) (impl_partsOk.f (k + 1) a0 a1 a2 a3 a4):=by
 intro a0 a1 a2 a3 a4 k
 obtain ⟨ih0,ih1⟩:=impl_partsOk.mono_l k
 unfold impl_partsOk.f
 repeat' first
   | (with_reducible exact ih0 _ _ _ _ _ _ _ _)
   | (with_reducible exact ih1 _ _ _ _ _ _ _ _ _ _ _ _ _)
   | (with_reducible exact LeO.refl _)
   | (with_reducible exact LeO.none _)
   | (with_reducible refine LeO.ite ?_ ?_)
   | (with_reducible refine LeO.bind ?_ (fun _=>?_))
   | exact ih0 _ _ _ _ _ _ _ _
   | exact ih1 _ _ _ _ _ _ _ _ _ _ _ _ _
   | exact LeO.none _
   | refine LeO.ite ?_ ?_
   | refine LeO.bind ?_ (fun _=>?_)
set_option maxHeartbeats 8000000 in
set_option maxRecDepth 100000 in
theorem impl_partsOk.calls (k : Nat) (a0_0 : ByteArray) (A0_1 : Option Addr) (c0_1 : Nat) (l0_1 : List (S82)) (A0_2 : Option Addr) (c0_2 : Nat) (l0_2 : List (S85)) (A0_3 : Option Addr) (c0_3 : Nat) (l0_3 : List (S69)) (A1 : Option Addr) (c1 : Nat) (l1 : List (S85)) (r : Bool) (w : World) (hr0_1 : Kd.C k82 w A0_1 l0_1.length l0_1) (hc0_1 : l0_1.length ≤ c0_1) (hr0_2 : Kd.C k85 w A0_2 l0_2.length l0_2) (hc0_2 : l0_2.length ≤ c0_2) (hr0_3 : Kd.C k69 w A0_3 l0_3.length l0_3) (hc0_3 : l0_3.length ≤ c0_3) (hr1 : Kd.C k85 w A1 l1.length l1) (hc1 : l1.length ≤ c1) (h : impl_partsOk.f k a0_0 l0_1 l0_2 l0_3 l1 = some r) :
  Calls Tryd.prog 57 #[.agg #[.string a0_0,.slice A0_1 l0_1.length c0_1,.slice A0_2 l0_2.length c0_2,.slice A0_3 l0_3.length c0_3],.slice A1 l1.length c1] w fun e w'=>e = .returned (.bool r) ∧ Below w.heap.size w w':=by
 have hu35:=Tryd.underlying35
 have hu85:=Tryd.underlying85
 have HR0_1:=aM_ hr0_1
 have HC0_1:=aM_ hc0_1
 clear hr0_1 hc0_1
 have HR0_2:=aM_ hr0_2
 have HC0_2:=aM_ hc0_2
 clear hr0_2 hc0_2
 have HR0_3:=aM_ hr0_3
 have HC0_3:=aM_ hc0_3
 clear hr0_3 hc0_3
 have HR1:=aM_ hr1
 have HC1:=aM_ hc1
 clear hr1 hc1
 have HB:=aM_ (Below.refl w.heap.size w)
 have H : (impl_partsOk.l0 k l1 l1 (l1.length : Int) 0 a0_0 l0_1 l0_2 l0_3) = some r:=h
 clear h
 have H':=aM_ H
 clear H
 go_enter Tryd.func57,Tryd.ntmps57
 go_wp2_with (first | ((with_reducible refine gate_dst (N:=2) rfl ?_);refine box_event ?hg (N:=2) ?hd (cs:=#[.string a0_0,.slice A0_1 l0_1.length c0_1,.slice A0_2 l0_2.length c0_2,.slice A0_3 l0_3.length c0_3]) (t:=35) ?hr ?_;(case hd=>rfl);(case hg=>rfl);(case hr=>first | (go_simp;done) | (go_simp;rfl));intro gb307 hg w3 hbox hb;have n0_:=aM_ (bT_ (by exact bZ_ HB) hb);have n1_:=aM_ (hbox);have n2_:=aM_ ((by rw [hg];exact (bS_ (by exact bZ_ HB)) : w.heap.size ≤ gb307));have n3_:=aM_ ((by rw [hg];exact (bS_ (by exact bZ_ HB)) : w.heap.size ≤ gb307));clear HB;have HB:=n0_;have BK307:=n1_;have GW307:=n2_;have GE307:=n3_;clear n0_ n1_ n2_ n3_ hb hbox hg))
 (try simp only [Act.put,sI_,sS_,sZ_])
 go_loopg [11] k (fun kq v11 w'=>∃ (x11_1 : Int),v11 = .int .i64 x11_1 ∧ Aside0 (impl_partsOk.l0 kq l1 l1 (l1.length : Int) x11_1 a0_0 l0_1 l0_2 l0_3 = some r) ∧ Aside0 (kq ≤ k) ∧ Aside0 (w'.heap[gb307]? = some (.cells #[.string a0_0,(.slice A0_1 l0_1.length c0_1),(.slice A0_2 l0_2.length c0_2),(.slice A0_3 l0_3.length c0_3)] 35 (0,0))) ∧ Aside0 (Below w.heap.size w w'))
 case atStart=>exact ⟨(0),(by first | rfl | (simp;done) | (simp [*];done)),H', ⟨Nat.le_refl _⟩,⟨by exact kZ_ BK307⟩,⟨by exact bZ_ HB⟩⟩
 case round =>
  clear H'
  obtain ⟨x11_1,rfl,HA,HK1,BK307,HB⟩:=hrel
  cases gk with
  | zero=>exact absurd HA.out (by simp [impl_partsOk.l0])
  | succ k1 =>
   have H:=HA.out
   clear HA
   simp only [impl_partsOk.l0] at H
   by_cases c4 : x11_1 < (l1.length : Int)
   ·rw [if_pos c4] at H
    have c4b0 : decide (x11_1 < (l1.length : Int)) = true:=decide_eq_true c4
    clear c4
    by_cases c5 : 0 ≤ x11_1
    ·rw [if_pos c5] at H
     have c5b0 : decide (0 ≤ x11_1) = true:=decide_eq_true c5
     clear c5
     by_cases c6 : x11_1 < (l1.length : Int)
     ·rw [if_pos c6] at H
      have c6b0 : decide (x11_1 < (l1.length : Int)) = true:=decide_eq_true c6
      clear c6
      replace H:=oB_ H
      obtain ⟨t311,A70,H⟩:=H
      replace H : (if t311 = true then (if x11_1 ≤ (l1.length : Int) then ((some (l1.take (x11_1 : Int).toNat : List (S85))).bind fun y312=>(impl_partsOk.l1 k1 l1 l1 (l1.length : Int) x11_1 y312 (y312.length : Int) 0 a0_0 l0_1 l0_2 l0_3 ((rd_T85 l1 x11_1).f0) ((rd_T85 l1 x11_1).f1))) else (none)) else (some false)) = some r:=H
      have A7:=aM_ A70
      clear A70
      by_cases c8 : t311 = true
      ·subst c8
       have H1 : (if x11_1 ≤ (l1.length : Int) then ((some (l1.take (x11_1 : Int).toNat : List (S85))).bind fun y312=>(impl_partsOk.l1 k1 l1 l1 (l1.length : Int) x11_1 y312 (y312.length : Int) 0 a0_0 l0_1 l0_2 l0_3 ((rd_T85 l1 x11_1).f0) ((rd_T85 l1 x11_1).f1))) else (none)) = some r:=by rw [if_pos rfl] at H;exact H
       clear H
       have H:=H1
       clear H1
       have c9b0:=eq_true (oT_ (by first | (with_reducible assumption) | assumption) : 0 ≤ x11_1)
       by_cases c10 : x11_1 ≤ (l1.length : Int)
       ·rw [if_pos c10] at H
        have c10b0:=eq_true c10
        have c10b1 : decide (x11_1 ≤ (l1.length : Int)) = true:=decide_eq_true c10
        clear c10
        obtain ⟨y312,hy312⟩ : ∃ y_ : List (S85),y_ = (l1.take (x11_1 : Int).toNat):=⟨_,rfl⟩
        replace H : (impl_partsOk.l1 k1 l1 l1 (l1.length : Int) x11_1 y312 (y312.length : Int) 0 a0_0 l0_1 l0_2 l0_3 ((rd_T85 l1 x11_1).f0) ((rd_T85 l1 x11_1).f1)) = some r:=by first | (rw [hy312];with_reducible exact H) | (have H2_:=(Option.bind_some _ _).symm.trans H;rw [hy312];with_reducible exact H2_) | (have H2_:=(Option.bind_some _ _).symm.trans H;with_reducible exact H2_) | with_reducible exact H | (rw [hy312];exact H) | exact H
        have Ny312:=aM_ hy312
        clear hy312
        have H':=aM_ H
        clear H
        have p309 : 0 ≤ (x11_1 : Int):=oT_ (by first | (with_reducible assumption) | assumption)
        have q309 : x11_1 < (l1.length : Int):=oT_ (by first | (with_reducible assumption) | assumption)
        obtain ⟨ad309,e309,hx309_0,hx309_1⟩:=at_T85 HR1.out x11_1 p309 q309
        cases e309
        replace hx309_0:=(HB.out.cell (wL_ w _ hx309_0)).trans hx309_0
        replace hx309_1:=(HB.out.cell (wL_ w _ hx309_1)).trans hx309_1
        replace p309:=eq_true p309
        replace q309:=eq_true q309
        go_wp2_with (first | ((with_reducible refine gate_dst (N:=6) rfl ?_);refine box_event ?hg (N:=6) ?hd (cs:=#[.int .i64 0,.bool false]) (t:=85) ?hr ?_;(case hd=>rfl);(case hg=>rfl);(case hr=>first | (go_simp;done) | (go_simp;rfl));intro gb310 hg w11 hbox hb;have n0_:=aM_ (blk_below (g:=gb307) (o:=.cells #[.string a0_0,.slice A0_1 l0_1.length c0_1,.slice A0_2 l0_2.length c0_2,.slice A0_3 l0_3.length c0_3] 35 (0,0)) (by exact kZ_ BK307) hb);have n1_:=aM_ (bT_ (by exact bZ_ HB) hb);have n2_:=aM_ (hbox);have n3_:=aM_ ((by rw [hg];exact (bS_ (by exact bZ_ HB)) : w.heap.size ≤ gb310));have n4_:=aM_ ((by rw [hg];exact (bS_ (by exact bZ_ HB)) : w.heap.size ≤ gb310));have n5_:=aM_ ((by rw [hg];exact nN_ (blk_lt (g:=gb307) (o:=.cells #[.string a0_0,.slice A0_1 l0_1.length c0_1,.slice A0_2 l0_2.length c0_2,.slice A0_3 l0_3.length c0_3] 35 (0,0)) (by exact kZ_ BK307)) : gb307 ≠ gb310));have n6_:=aM_ ((by rw [hg];exact Nat.ne_of_gt (blk_lt (g:=gb307) (o:=.cells #[.string a0_0,.slice A0_1 l0_1.length c0_1,.slice A0_2 l0_2.length c0_2,.slice A0_3 l0_3.length c0_3] 35 (0,0)) (by exact kZ_ BK307)) : gb310 ≠ gb307));clear BK307 HB;have BK307:=n0_;have HB:=n1_;have BK310:=n2_;have GW310:=n3_;have GE310:=n4_;have NB307_310:=n5_;have NB310_307:=n6_;clear n0_ n1_ n2_ n3_ n4_ n5_ n6_ hb hbox hg;have hnb12:=NB310_307.out;have hnc12:=NB307_310.out;have hcz13_0 : w11.cell? ⟨gb310,0,none⟩ = some (.int .i64 0):=(kC_ BK310.out 0).trans rfl;have hcz13_1 : w11.cell? ⟨gb310,1,none⟩ = some (.bool false):=(kC_ BK310.out 1).trans rfl;have hfz13_0:=kF_ BK310.out 0;have hfz13_1:=kF_ BK310.out 1) | ((with_reducible refine gate_store (t:=85) (p:=6) rfl ?_);refine store_event (t:=85) (p:=6) (v:=?vo_w14) (w1:=((w11.setCell ⟨gb310,0,none⟩ (.int .i64 ((rd_T85 l1 x11_1).f0))).setCell ⟨gb310,1,none⟩ (.bool ((rd_T85 l1 x11_1).f1)))) ?hg ?ho ?hn ?hr ?_;(case ho=>rfl);(case hg=>rfl);(case hn=>rfl);(case hr=>first | (go_simp;done) | (go_simp;rfl));intro w14 hw;have n0_ : Aside0 (w14.heap[gb307]? = some (.cells #[.string a0_0,.slice A0_1 l0_1.length c0_1,.slice A0_2 l0_2.length c0_2,.slice A0_3 l0_3.length c0_3] 35 (0,0))):=⟨(by rw [hw];exact (by exact kW_ BK307))⟩;have n1_ : Aside0 (w14.heap[gb310]? = some (.cells #[.int .i64 ((rd_T85 l1 x11_1).f0),.bool ((rd_T85 l1 x11_1).f1)] 85 (0,0))):=⟨(by rw [hw];exact (by (with_reducible repeat (first | refine kN_ ?_ _ | refine kD_ ?_ | refine kA_ ?_ _));refine kP_ (cs:=#[.int .i64 ((rd_T85 l1 x11_1).f0),.bool false]) ?_ 1 _ rfl;(with_reducible repeat (first | refine kN_ ?_ _ | refine kD_ ?_ | refine kA_ ?_ _));refine kP_ (cs:=#[.int .i64 0,.bool false]) ?_ 0 _ rfl;exact kZ_ BK310))⟩;have n2_ : Aside0 (Below w.heap.size w w14):=⟨(by rw [hw];exact (by exact bZ_ HB))⟩;clear hw BK307 BK310 HB;have BK307:=n0_;have BK310:=n1_;have HB:=n2_;clear n0_ n1_ n2_;have hcz15_0 : w14.cell? ⟨gb310,0,none⟩ = some (.int .i64 ((rd_T85 l1 x11_1).f0)):=(kC_ BK310.out 0).trans rfl;have hcz15_1 : w14.cell? ⟨gb310,1,none⟩ = some (.bool ((rd_T85 l1 x11_1).f1)):=(kC_ BK310.out 1).trans rfl;have hfz15_0:=kF_ BK310.out 0;have hfz15_1:=kF_ BK310.out 1;have hcz16_0 : w14.cell? ⟨gb307,0,none⟩ = some (.string a0_0):=(kC_ BK307.out 0).trans rfl;have hcz16_1 : w14.cell? ⟨gb307,1,none⟩ = some (.slice A0_1 l0_1.length c0_1):=(kC_ BK307.out 1).trans rfl;have hcz16_2 : w14.cell? ⟨gb307,2,none⟩ = some (.slice A0_2 l0_2.length c0_2):=(kC_ BK307.out 2).trans rfl;have hcz16_3 : w14.cell? ⟨gb307,3,none⟩ = some (.slice A0_3 l0_3.length c0_3):=(kC_ BK307.out 3).trans rfl;have hfz16_0:=kF_ BK307.out 0;have hfz16_1:=kF_ BK307.out 1;have hfz16_2:=kF_ BK307.out 2;have hfz16_3:=kF_ BK307.out 3) | ((with_reducible refine gate_callee (f:=55) rfl ?_);refine goesL_ (some 22) rfl rfl Tryd.func55 (by kernel_rfl) rfl #[.int .i64 ((rd_T85 l1 x11_1).f0),.int .i64 0,.int .i64 (wrap64 ((l0_1.length : Int) - 1))] rfl (by (try simp only [mA_,mC_,mN_]);first | done | rfl | (simp only [lD_,lT_];rfl)) ?_;(with_reducible refine (impl_in.calls ((rd_T85 l1 x11_1).f0) 0 (wrap64 ((l0_1.length : Int) - 1)) true _ A7.out).mono ?_);rintro e w' ⟨rfl,⟨nd,rfl⟩⟩;refine ⟨_,rfl,?_⟩;have q17 : (x11_1 : Int) ≤ ((l1.length : Int) : Int):=oT_ (by first | (with_reducible assumption) | assumption);obtain ⟨i017,hi017,_,hsz17,_⟩:=info_parts info85;have hroom17 : l1.length ≤ c1:=HC1.out;have hC17 : Kd.C k85 _ (some ad309) l1.length l1:=HR1.out;have hcut17:=cut_to (P:=Tryd.prog) 32 85 .i64 Tryd.underlying32 hi017 (some ad309) l1.length c1 x11_1 (oT_ (by first | (with_reducible assumption) | assumption)) q17 hroom17;have hr17:=Kd.C_take (m:=(x11_1 : Int).toNat) hC17 (by omega);have hy17 : y312.length = (x11_1 : Int).toNat:=(by rw [Ny312.out,lT_];omega);rw [← Ny312.out] at hr17;rw [← hy17] at hcut17;have HR315:=aM_ hr17;have HC315:=aM_ (show y312.length ≤ c1 from by omega);clear hr17 hC17 hroom17 hi017 hsz17;have KY17:=aM_ hy17;clear hy17;replace q17:=eq_true q17))
        (try simp only [Act.put,sI_,sS_,sZ_])
        go_loopg [28] k1 (fun kq v28 w'=>∃ (x28_2 : Int),v28 = .int .i64 x28_2 ∧ Aside0 (impl_partsOk.l1 kq l1 l1 (l1.length : Int) x11_1 y312 (y312.length : Int) x28_2 a0_0 l0_1 l0_2 l0_3 ((rd_T85 l1 x11_1).f0) ((rd_T85 l1 x11_1).f1) = some r) ∧ Aside0 (kq ≤ k1) ∧ Aside0 (w'.heap[gb307]? = some (.cells #[.string a0_0,(.slice A0_1 l0_1.length c0_1),(.slice A0_2 l0_2.length c0_2),(.slice A0_3 l0_3.length c0_3)] 35 (0,0))) ∧ Aside0 (w'.heap[gb310]? = some (.cells #[.int .i64 ((rd_T85 l1 x11_1).f0),.bool ((rd_T85 l1 x11_1).f1)] 85 (0,0))) ∧ Aside0 (Below w.heap.size w w'))
        case atStart=>exact ⟨(0),(by first | rfl | (simp;done) | (simp [*];done)),H', ⟨Nat.le_refl _⟩,⟨by exact kZ_ BK307⟩,⟨by exact kZ_ BK310⟩,⟨by exact bZ_ HB⟩⟩
        case round =>
         clear H'
         clear c4b0 c5b0 c6b0 c9b0 c10b0 c10b1 q17 hcz13_0 hcz13_1 hcz15_0 hcz15_1 hcz16_0 hcz16_1 hcz16_2 hcz16_3 hfz13_0 hfz13_1 hfz15_0 hfz15_1 hfz16_0 hfz16_1 hfz16_2 hfz16_3 hx309_0 hx309_1 p309 q309
         obtain ⟨x28_2,rfl,HA,HK2,BK307,BK310,HB⟩:=hrel
         cases gk with
         | zero=>exact absurd HA.out (by simp [impl_partsOk.l1])
         | succ k2 =>
          have H:=HA.out
          clear HA
          simp only [impl_partsOk.l1] at H
          by_cases c18 : x28_2 < (y312.length : Int)
          ·rw [if_pos c18] at H
           have c18b0 : decide (x28_2 < (y312.length : Int)) = true:=decide_eq_true c18
           clear c18
           by_cases c19 : 0 ≤ x28_2
           ·rw [if_pos c19] at H
            have c19b0 : decide (0 ≤ x28_2) = true:=decide_eq_true c19
            clear c19
            by_cases c20 : x28_2 < (y312.length : Int)
            ·rw [if_pos c20] at H
             have c20b0 : decide (x28_2 < (y312.length : Int)) = true:=decide_eq_true c20
             clear c20
             by_cases c21 : ((rd_T85 y312 x28_2).f0) = ((rd_T85 l1 x11_1).f0)
             ·rw [if_pos c21] at H
              have c21b0 : (((rd_T85 y312 x28_2).f0) == ((rd_T85 l1 x11_1).f0)) = true:=beq_iff_eq.mpr c21
              have c21b1 : (((rd_T85 y312 x28_2).f0) != ((rd_T85 l1 x11_1).f0)) = false:=bne_eq_false_iff_eq.mpr c21
              clear c21
              obtain rfl:=Option.some.inj H
              have p316 : 0 ≤ (x28_2 : Int):=oT_ (by first | (with_reducible assumption) | assumption)
              have q316 : x28_2 < (y312.length : Int):=oT_ (by first | (with_reducible assumption) | assumption)
              obtain ⟨ad316,e316,hx316_0,hx316_1⟩:=at_T85 HR315.out x28_2 p316 q316
              obtain rfl : ad309 = ad316:=(by injection e316)
              replace hx316_0:=(HB.out.cell (wL_ w _ hx316_0)).trans hx316_0
              replace hx316_1:=(HB.out.cell (wL_ w _ hx316_1)).trans hx316_1
              replace p316:=eq_true p316
              replace q316:=eq_true q316
              go_wp2_with (first | ((with_reducible refine gate_dst (N:=8) rfl ?_);refine box_event ?hg (N:=8) ?hd (cs:=#[.int .i64 0,.bool false]) (t:=85) ?hr ?_;(case hd=>rfl);(case hg=>rfl);(case hr=>first | (go_simp;done) | (go_simp;rfl));intro gb317 hg w22 hbox hb;have n0_:=aM_ (blk_below (g:=gb307) (o:=.cells #[.string a0_0,.slice A0_1 l0_1.length c0_1,.slice A0_2 l0_2.length c0_2,.slice A0_3 l0_3.length c0_3] 35 (0,0)) (by exact kZ_ BK307) hb);have n1_:=aM_ (blk_below (g:=gb310) (o:=.cells #[.int .i64 ((rd_T85 l1 x11_1).f0),.bool ((rd_T85 l1 x11_1).f1)] 85 (0,0)) (by exact kZ_ BK310) hb);have n2_:=aM_ (bT_ (by exact bZ_ HB) hb);have n3_:=aM_ (hbox);have n4_:=aM_ ((by rw [hg];exact (bS_ (by exact bZ_ HB)) : w.heap.size ≤ gb317));have n5_:=aM_ ((by rw [hg];exact (bS_ (by exact bZ_ HB)) : w.heap.size ≤ gb317));have n6_:=aM_ ((by rw [hg];exact nN_ (blk_lt (g:=gb307) (o:=.cells #[.string a0_0,.slice A0_1 l0_1.length c0_1,.slice A0_2 l0_2.length c0_2,.slice A0_3 l0_3.length c0_3] 35 (0,0)) (by exact kZ_ BK307)) : gb307 ≠ gb317));have n7_:=aM_ ((by rw [hg];exact Nat.ne_of_gt (blk_lt (g:=gb307) (o:=.cells #[.string a0_0,.slice A0_1 l0_1.length c0_1,.slice A0_2 l0_2.length c0_2,.slice A0_3 l0_3.length c0_3] 35 (0,0)) (by exact kZ_ BK307)) : gb317 ≠ gb307));have n8_:=aM_ ((by rw [hg];exact nN_ (blk_lt (g:=gb310) (o:=.cells #[.int .i64 ((rd_T85 l1 x11_1).f0),.bool ((rd_T85 l1 x11_1).f1)] 85 (0,0)) (by exact kZ_ BK310)) : gb310 ≠ gb317));have n9_:=aM_ ((by rw [hg];exact Nat.ne_of_gt (blk_lt (g:=gb310) (o:=.cells #[.int .i64 ((rd_T85 l1 x11_1).f0),.bool ((rd_T85 l1 x11_1).f1)] 85 (0,0)) (by exact kZ_ BK310)) : gb317 ≠ gb310));clear BK307 BK310 HB;have BK307:=n0_;have BK310:=n1_;have HB:=n2_;have BK317:=n3_;have GW317:=n4_;have GE317:=n5_;have NB307_317:=n6_;have NB317_307:=n7_;have NB310_317:=n8_;have NB317_310:=n9_;clear n0_ n1_ n2_ n3_ n4_ n5_ n6_ n7_ n8_ n9_ hb hbox hg;have hnb23:=NB317_307.out;have hnc23:=NB307_317.out;have hnb24:=NB317_310.out;have hnc24:=NB310_317.out;have hcz25_0 : w22.cell? ⟨gb317,0,none⟩ = some (.int .i64 0):=(kC_ BK317.out 0).trans rfl;have hcz25_1 : w22.cell? ⟨gb317,1,none⟩ = some (.bool false):=(kC_ BK317.out 1).trans rfl;have hfz25_0:=kF_ BK317.out 0;have hfz25_1:=kF_ BK317.out 1;have hnb26:=NB310_307.out;have hnc26:=NB307_310.out;have hcz27_0 : w22.cell? ⟨gb310,0,none⟩ = some (.int .i64 ((rd_T85 l1 x11_1).f0)):=(kC_ BK310.out 0).trans rfl;have hcz27_1 : w22.cell? ⟨gb310,1,none⟩ = some (.bool ((rd_T85 l1 x11_1).f1)):=(kC_ BK310.out 1).trans rfl;have hfz27_0:=kF_ BK310.out 0;have hfz27_1:=kF_ BK310.out 1))
              go_ret
              exact ⟨by first | rfl | (simp [errW_none,errW_some] <;> rfl) | (simp [*, errW_none,errW_some] <;> rfl),by exact bZ_ HB⟩
             ·rw [if_neg c21] at H
              have c21b0 : (((rd_T85 y312 x28_2).f0) == ((rd_T85 l1 x11_1).f0)) = false:=beq_eq_false_iff_ne.mpr c21
              have c21b1 : (((rd_T85 y312 x28_2).f0) != ((rd_T85 l1 x11_1).f0)) = true:=bne_iff_ne.mpr c21
              have H':=aM_ H
              clear H
              have p316 : 0 ≤ (x28_2 : Int):=oT_ (by first | (with_reducible assumption) | assumption)
              have q316 : x28_2 < (y312.length : Int):=oT_ (by first | (with_reducible assumption) | assumption)
              obtain ⟨ad316,e316,hx316_0,hx316_1⟩:=at_T85 HR315.out x28_2 p316 q316
              obtain rfl : ad309 = ad316:=(by injection e316)
              replace hx316_0:=(HB.out.cell (wL_ w _ hx316_0)).trans hx316_0
              replace hx316_1:=(HB.out.cell (wL_ w _ hx316_1)).trans hx316_1
              replace p316:=eq_true p316
              replace q316:=eq_true q316
              go_wp2_with (first | ((with_reducible refine gate_dst (N:=8) rfl ?_);refine box_event ?hg (N:=8) ?hd (cs:=#[.int .i64 0,.bool false]) (t:=85) ?hr ?_;(case hd=>rfl);(case hg=>rfl);(case hr=>first | (go_simp;done) | (go_simp;rfl));intro gb317 hg w28 hbox hb;have n0_:=aM_ (blk_below (g:=gb307) (o:=.cells #[.string a0_0,.slice A0_1 l0_1.length c0_1,.slice A0_2 l0_2.length c0_2,.slice A0_3 l0_3.length c0_3] 35 (0,0)) (by exact kZ_ BK307) hb);have n1_:=aM_ (blk_below (g:=gb310) (o:=.cells #[.int .i64 ((rd_T85 l1 x11_1).f0),.bool ((rd_T85 l1 x11_1).f1)] 85 (0,0)) (by exact kZ_ BK310) hb);have n2_:=aM_ (bT_ (by exact bZ_ HB) hb);have n3_:=aM_ (hbox);have n4_:=aM_ ((by rw [hg];exact (bS_ (by exact bZ_ HB)) : w.heap.size ≤ gb317));have n5_:=aM_ ((by rw [hg];exact (bS_ (by exact bZ_ HB)) : w.heap.size ≤ gb317));have n6_:=aM_ ((by rw [hg];exact nN_ (blk_lt (g:=gb307) (o:=.cells #[.string a0_0,.slice A0_1 l0_1.length c0_1,.slice A0_2 l0_2.length c0_2,.slice A0_3 l0_3.length c0_3] 35 (0,0)) (by exact kZ_ BK307)) : gb307 ≠ gb317));have n7_:=aM_ ((by rw [hg];exact Nat.ne_of_gt (blk_lt (g:=gb307) (o:=.cells #[.string a0_0,.slice A0_1 l0_1.length c0_1,.slice A0_2 l0_2.length c0_2,.slice A0_3 l0_3.length c0_3] 35 (0,0)) (by exact kZ_ BK307)) : gb317 ≠ gb307));have n8_:=aM_ ((by rw [hg];exact nN_ (blk_lt (g:=gb310) (o:=.cells #[.int .i64 ((rd_T85 l1 x11_1).f0),.bool ((rd_T85 l1 x11_1).f1)] 85 (0,0)) (by exact kZ_ BK310)) : gb310 ≠ gb317));have n9_:=aM_ ((by rw [hg];exact Nat.ne_of_gt (blk_lt (g:=gb310) (o:=.cells #[.int .i64 ((rd_T85 l1 x11_1).f0),.bool ((rd_T85 l1 x11_1).f1)] 85 (0,0)) (by exact kZ_ BK310)) : gb317 ≠ gb310));clear BK307 BK310 HB;have BK307:=n0_;have BK310:=n1_;have HB:=n2_;have BK317:=n3_;have GW317:=n4_;have GE317:=n5_;have NB307_317:=n6_;have NB317_307:=n7_;have NB310_317:=n8_;have NB317_310:=n9_;clear n0_ n1_ n2_ n3_ n4_ n5_ n6_ n7_ n8_ n9_ hb hbox hg;have hnb29:=NB317_307.out;have hnc29:=NB307_317.out;have hnb30:=NB317_310.out;have hnc30:=NB310_317.out;have hcz31_0 : w28.cell? ⟨gb317,0,none⟩ = some (.int .i64 0):=(kC_ BK317.out 0).trans rfl;have hcz31_1 : w28.cell? ⟨gb317,1,none⟩ = some (.bool false):=(kC_ BK317.out 1).trans rfl;have hfz31_0:=kF_ BK317.out 0;have hfz31_1:=kF_ BK317.out 1;have hnb32:=NB310_307.out;have hnc32:=NB307_310.out;have hcz33_0 : w28.cell? ⟨gb310,0,none⟩ = some (.int .i64 ((rd_T85 l1 x11_1).f0)):=(kC_ BK310.out 0).trans rfl;have hcz33_1 : w28.cell? ⟨gb310,1,none⟩ = some (.bool ((rd_T85 l1 x11_1).f1)):=(kC_ BK310.out 1).trans rfl;have hfz33_0:=kF_ BK310.out 0;have hfz33_1:=kF_ BK310.out 1))
              go_roundg k2
              case measure=>have:=HK1.out;have:=HK2.out;omega
              case rel=>exact ⟨(wrap64 (x28_2 + 1)),(by first | rfl | (simp;done) | (simp [*];done)),H', ⟨by have:=HK1.out;have:=HK2.out;omega⟩,⟨by exact kW_ BK307⟩,⟨by exact kW_ BK310⟩,⟨by exact bZ_ HB⟩⟩
            ·rw [if_neg c20] at H
             exact absurd H (by simp)
           ·rw [if_neg c19] at H
            exact absurd H (by simp)
          ·rw [if_neg c18] at H
           have c18b0 : decide (x28_2 < (y312.length : Int)) = false:=decide_eq_false c18
           clear c18
           have H':=aM_ H
           clear H
           go_wp2
           go_roundg k2
           case measure=>have:=HK1.out;have:=HK2.out;omega
           case rel=>exact ⟨(wrap64 (x11_1 + 1)),(by first | rfl | (simp;done) | (simp [*];done)),H', ⟨by have:=HK1.out;have:=HK2.out;omega⟩,⟨by exact kZ_ BK307⟩,⟨by exact bZ_ HB⟩⟩
       ·rw [if_neg c10] at H
        exact absurd H (by simp)
      ·replace c8:=Bool.eq_false_iff.mpr c8
       subst c8
       have H1 : (some false) = some r:=by rw [if_neg (show ¬ (false = true) by decide)] at H;exact H
       clear H
       have H:=H1
       clear H1
       obtain rfl:=Option.some.inj H
       have p309 : 0 ≤ (x11_1 : Int):=oT_ (by first | (with_reducible assumption) | assumption)
       have q309 : x11_1 < (l1.length : Int):=oT_ (by first | (with_reducible assumption) | assumption)
       obtain ⟨ad309,e309,hx309_0,hx309_1⟩:=at_T85 HR1.out x11_1 p309 q309
       cases e309
       replace hx309_0:=(HB.out.cell (wL_ w _ hx309_0)).trans hx309_0
       replace hx309_1:=(HB.out.cell (wL_ w _ hx309_1)).trans hx309_1
       replace p309:=eq_true p309
       replace q309:=eq_true q309
       go_wp2_with (first | ((with_reducible refine gate_dst (N:=6) rfl ?_);refine box_event ?hg (N:=6) ?hd (cs:=#[.int .i64 0,.bool false]) (t:=85) ?hr ?_;(case hd=>rfl);(case hg=>rfl);(case hr=>first | (go_simp;done) | (go_simp;rfl));intro gb310 hg w34 hbox hb;have n0_:=aM_ (blk_below (g:=gb307) (o:=.cells #[.string a0_0,.slice A0_1 l0_1.length c0_1,.slice A0_2 l0_2.length c0_2,.slice A0_3 l0_3.length c0_3] 35 (0,0)) (by exact kZ_ BK307) hb);have n1_:=aM_ (bT_ (by exact bZ_ HB) hb);have n2_:=aM_ (hbox);have n3_:=aM_ ((by rw [hg];exact (bS_ (by exact bZ_ HB)) : w.heap.size ≤ gb310));have n4_:=aM_ ((by rw [hg];exact (bS_ (by exact bZ_ HB)) : w.heap.size ≤ gb310));have n5_:=aM_ ((by rw [hg];exact nN_ (blk_lt (g:=gb307) (o:=.cells #[.string a0_0,.slice A0_1 l0_1.length c0_1,.slice A0_2 l0_2.length c0_2,.slice A0_3 l0_3.length c0_3] 35 (0,0)) (by exact kZ_ BK307)) : gb307 ≠ gb310));have n6_:=aM_ ((by rw [hg];exact Nat.ne_of_gt (blk_lt (g:=gb307) (o:=.cells #[.string a0_0,.slice A0_1 l0_1.length c0_1,.slice A0_2 l0_2.length c0_2,.slice A0_3 l0_3.length c0_3] 35 (0,0)) (by exact kZ_ BK307)) : gb310 ≠ gb307));clear BK307 HB;have BK307:=n0_;have HB:=n1_;have BK310:=n2_;have GW310:=n3_;have GE310:=n4_;have NB307_310:=n5_;have NB310_307:=n6_;clear n0_ n1_ n2_ n3_ n4_ n5_ n6_ hb hbox hg;have hnb35:=NB310_307.out;have hnc35:=NB307_310.out;have hcz36_0 : w34.cell? ⟨gb310,0,none⟩ = some (.int .i64 0):=(kC_ BK310.out 0).trans rfl;have hcz36_1 : w34.cell? ⟨gb310,1,none⟩ = some (.bool false):=(kC_ BK310.out 1).trans rfl;have hfz36_0:=kF_ BK310.out 0;have hfz36_1:=kF_ BK310.out 1;have hcz37_0 : w34.cell? ⟨gb307,0,none⟩ = some (.string a0_0):=(kC_ BK307.out 0).trans rfl;have hcz37_1 : w34.cell? ⟨gb307,1,none⟩ = some (.slice A0_1 l0_1.length c0_1):=(kC_ BK307.out 1).trans rfl;have hcz37_2 : w34.cell? ⟨gb307,2,none⟩ = some (.slice A0_2 l0_2.length c0_2):=(kC_ BK307.out 2).trans rfl;have hcz37_3 : w34.cell? ⟨gb307,3,none⟩ = some (.slice A0_3 l0_3.length c0_3):=(kC_ BK307.out 3).trans rfl;have hfz37_0:=kF_ BK307.out 0;have hfz37_1:=kF_ BK307.out 1;have hfz37_2:=kF_ BK307.out 2;have hfz37_3:=kF_ BK307.out 3) | ((with_reducible refine gate_callee (f:=55) rfl ?_);refine goesL_ (some 22) rfl rfl Tryd.func55 (by kernel_rfl) rfl #[.int .i64 ((rd_T85 l1 x11_1).f0),.int .i64 0,.int .i64 (wrap64 ((l0_1.length : Int) - 1))] rfl (by (try simp only [mA_,mC_,mN_]);first | done | rfl | (simp only [lD_,lT_];rfl)) ?_;(with_reducible refine (impl_in.calls ((rd_T85 l1 x11_1).f0) 0 (wrap64 ((l0_1.length : Int) - 1)) false _ A7.out).mono ?_);rintro e w' ⟨rfl,⟨nd,rfl⟩⟩;refine ⟨_,rfl,?_⟩))
       go_ret
       exact ⟨by first | rfl | (simp [errW_none,errW_some] <;> rfl) | (simp [*, errW_none,errW_some] <;> rfl),by exact bZ_ HB⟩
     ·rw [if_neg c6] at H
      exact absurd H (by simp)
    ·rw [if_neg c5] at H
     exact absurd H (by simp)
   ·rw [if_neg c4] at H
    have c4b0 : decide (x11_1 < (l1.length : Int)) = false:=decide_eq_false c4
    clear c4
    replace H:=oB_ H
    obtain ⟨t308,A380,H⟩:=H
    replace H : (some t308) = some r:=H
    have A38:=aM_ A380
    clear A380
    obtain rfl:=Option.some.inj H
    go_wp2_with (first | ((with_reducible refine gate_callee (f:=55) rfl ?_);refine goesL_ (some 41) rfl rfl Tryd.func55 (by kernel_rfl) rfl #[.int .i64 (l1.length : Int),.int .i64 1,.int .i64 2] rfl (by (try simp only [mA_,mC_,mN_]);first | done | rfl | (simp only [lD_,lT_];rfl)) ?_;(with_reducible refine (impl_in.calls (l1.length : Int) 1 2 t308 _ A38.out).mono ?_);rintro e w' ⟨rfl,⟨nd,rfl⟩⟩;refine ⟨_,rfl,?_⟩))
    go_ret
    exact ⟨by first | rfl | (simp [errW_none,errW_some] <;> rfl) | (simp [*, errW_none,errW_some] <;> rfl),by exact bZ_ HB⟩
end Go.Proofs.YtipehkeabnfngaaDoor.PFnExactDefsText
