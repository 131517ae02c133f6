import Derived.Test.YtllgmgpfdnofmaaDoorZCDPFnExactCheckDefx0
import Derived.Test.YtllgmgpfdnofmaaDoorZCDPFnExactCheckDefx6
namespace Go.Proofs.YtllgmgpfdnofmaaDoor.PFnExactCheckDef
open Go.RowKit Go.Proofs.YtllgmgpfdnofmaaDoorW.PrintWords Go.Proofs.YtllgmgpfdnofmaaDoorW.PrintLast Go.Proofs.YtllgmgpfdnofmaaDoorW.PrintMore Go.Proofs.YtllgmgpfdnofmaaDoor.Xtra
attribute [local go_sem] max2_int min2_int max_two min_two max_three min_three max_four min_four str_leq str_gtr str_geq setCell_drewN cell_set2 cell_set3   -- for this text's walks alone
set_option linter.unusedVariables false
set_option linter.unusedSimpArgs false
mutual
def impl_partsOk.l0 : Nat → List (S44) → List (S44) → Int → Int → ByteArray → List (S42) → List (S44) → List (S50) → Option (Bool)
 | 0,_,_,_,_,_,_,_,_=>none
 | k + 1,x1,x9,x10,x11,x240000,x240001,x240002,x240003=>if x11 < x10 then (if 0 ≤ x11 then (if x11 < (x9.length : Int) then ((impl_in.f ((rd_T44 x9 x11).f0) 0 (wrap64 ((x240001.length : Int) - 1))).bind fun t243=>(if t243 = true then (if x11 ≤ (x1.length : Int) then ((some (x1.take (x11 : Int).toNat : List (S44))).bind fun y244=>(impl_partsOk.l1 k x1 x9 x10 x11 y244 (y244.length : Int) 0 x240000 x240001 x240002 x240003 ((rd_T44 x9 x11).f0) ((rd_T44 x9 x11).f1))) else (none)) else (some false))) else (none)) else (none)) else ((impl_in.f (x1.length : Int) 1 2).bind fun t240=>(some t240))
def impl_partsOk.l1 : Nat → List (S44) → List (S44) → Int → Int → List (S44) → Int → Int → ByteArray → List (S42) → List (S44) → List (S50) → Int → Bool → Option (Bool)
 | 0,_,_,_,_,_,_,_,_,_,_,_,_,_=>none
 | k + 1,x1,x9,x10,x11,x26,x27,x28,x240000,x240001,x240002,x240003,x243000,x243001=>if x28 < x27 then (if 0 ≤ x28 then (if x28 < (x26.length : Int) then (if ((rd_T44 x26 x28).f0) = x243000 then (some false) else (impl_partsOk.l1 k x1 x9 x10 x11 x26 x27 (wrap64 (x28 + 1)) x240000 x240001 x240002 x240003 x243000 x243001)) else (none)) else (none)) else (impl_partsOk.l0 k x1 x9 x10 (wrap64 (x11 + 1)) x240000 x240001 x240002 x240003)
end
def impl_partsOk.f (k : Nat) (a0_0 : ByteArray) (l0_1 : List (S42)) (l0_2 : List (S44)) (l0_3 : List (S50)) (l1 : List (S44)) : Option (Bool):=impl_partsOk.l0 k l1 l1 (l1.length : Int) 0 a0_0 l0_1 l0_2 l0_3
theorem impl_partsOk.mono_l : ∀ k,(∀ y0 y1 y2 y3 y4 y5 y6 y7,LeO (impl_partsOk.l0 k y0 y1 y2 y3 y4 y5 y6 y7) (impl_partsOk.l0 (k + 1) y0 y1 y2 y3 y4 y5 y6 y7)) ∧ (∀ y0 y1 y2 y3 y4 y5 y6 y7 y8 y9 y10 y11 y12,LeO (impl_partsOk.l1 k y0 y1 y2 y3 y4 y5 y6 y7 y8 y9 y10 y11 y12) (impl_partsOk.l1 (k + 1) y0 y1 y2 y3 y4 y5 y6 y7 y8 y9 y10 y11 y12))
 | 0=>⟨fun _ _ _ _ _ _ _ _ r h=>by simp [impl_partsOk.l0] at h,fun _ _ _ _ _ _ _ _ _ _ _ _ _ r h=>by simp [impl_partsOk.l1] at h⟩
 | k + 1=>by
  obtain ⟨ih0,ih1⟩:=impl_partsOk.mono_l k
  refine ⟨?_,?_⟩
  ·intro y0 y1 y2 y3 y4 y5 y6 y7
   unfold impl_partsOk.l0
   repeat' first
   | (with_reducible exact ih0 _ _ _ _ _ _ _ _)
   | (with_reducible exact ih1 _ _ _ _ _ _ _ _ _ _ _ _ _)
   | (with_reducible exact LeO.refl _)
   | (with_reducible exact LeO.none _)
   | (with_reducible refine LeO.ite ?_ ?_)
   | (with_reducible refine LeO.bind ?_ (fun _=>?_))
   | exact ih0 _ _ _ _ _ _ _ _
   | exact ih1 _ _ _ _ _ _ _ _ _ _ _ _ _
   | exact LeO.none _
   | refine LeO.ite ?_ ?_
   | refine LeO.bind ?_ (fun _=>?_)
  ·intro y0 y1 y2 y3 y4 y5 y6 y7 y8 y9 y10 y11 y12
   unfold impl_partsOk.l1
   repeat' first
   | (with_reducible exact ih0 _ _ _ _ _ _ _ _)
   | (with_reducible exact ih1 _ _ _ _ _ _ _ _ _ _ _ _ _)
   | (with_reducible exact LeO.refl _)
   | (with_reducible exact LeO.none _)
   | (with_reducible refine LeO.ite ?_ ?_)
   | (with_reducible refine LeO.bind ?_ (fun _=>?_))
   | exact ih0 _ _ _ _ _ _ _ _
   | exact ih1 _ _ _ _ _ _ _ _ _ _ _ _ _
   | exact LeO.none _
   | refine LeO.ite ?_ ?_
   | refine LeO.bind ?_ (fun _=>?_)
theorem impl_partsOk.mono : ∀ a0 a1 a2 a3 a4 k,LeO (impl_partsOk.f k a0 a1 a2 a3 a4) (impl_partsOk.f (k + 1) a0 a1 a2 a3 a4):=by
 intro a0 a1 a2 a3 a4 k
 obtain ⟨ih0,ih1⟩:=impl_partsOk.mono_l k
 unfold impl_partsOk.f
 repeat' first
   | (with_reducible exact ih0 _ _ _ _ _ _ _ _)
   | (with_reducible exact ih1 _ _ _ _ _ _ _ _ _ _ _ _ _)
   | (with_reducible exact LeO.refl _)
   | (with_reducible exact LeO.none _)
   | (with_reducible refine LeO.ite ?_ ?_)
   | (with_reducible refine LeO.bind ?_ (fun _=>?_))
   | exact ih0 _ _ _ _ _ _ _ _
   | exact ih1 _ _ _ _ _ _ _ _ _ _ _ _ _
   | exact LeO.none _
   | refine LeO.ite ?_ ?_
   | refine LeO.bind ?_ (fun _=>?_)
set_option maxHeartbeats 8000000 in
set_option maxRecDepth 100000 in
theorem impl_partsOk.calls (k : Nat) (a0_0 : ByteArray) (A0_1 : Option Addr) (c0_1 : Nat) (l0_1 : List (S42)) (A0_2 : Option Addr) (c0_2 : Nat) (l0_2 : List (S44)) (A0_3 : Option Addr) (c0_3 : Nat) (l0_3 : List (S50)) (A1 : Option Addr) (c1 : Nat) (l1 : List (S44)) (r : Bool) (w : World) (hr0_1 : Kd.C k42 w A0_1 l0_1.length l0_1) (hc0_1 : l0_1.length ≤ c0_1) (hr0_2 : Kd.C k44 w A0_2 l0_2.length l0_2) (hc0_2 : l0_2.length ≤ c0_2) (hr0_3 : Kd.C k50 w A0_3 l0_3.length l0_3) (hc0_3 : l0_3.length ≤ c0_3) (hr1 : Kd.C k44 w A1 l1.length l1) (hc1 : l1.length ≤ c1) (h : impl_partsOk.f k a0_0 l0_1 l0_2 l0_3 l1 = some r) :
  Calls Tryd.prog 22 #[.agg #[.string a0_0,.slice A0_1 l0_1.length c0_1,.slice A0_2 l0_2.length c0_2,.slice A0_3 l0_3.length c0_3],.slice A1 l1.length c1] w fun e w'=>e = .returned (.bool r) ∧ Below w.heap.size w w':=by
 have hu33:=Tryd.underlying33
 have hu44:=Tryd.underlying44
 have HR0_1:=aM_ hr0_1
 have HC0_1:=aM_ hc0_1
 clear hr0_1 hc0_1
 have HR0_2:=aM_ hr0_2
 have HC0_2:=aM_ hc0_2
 clear hr0_2 hc0_2
 have HR0_3:=aM_ hr0_3
 have HC0_3:=aM_ hc0_3
 clear hr0_3 hc0_3
 have HR1:=aM_ hr1
 have HC1:=aM_ hc1
 clear hr1 hc1
 have HB:=aM_ (Below.refl w.heap.size w)
 have H : (impl_partsOk.l0 k l1 l1 (l1.length : Int) 0 a0_0 l0_1 l0_2 l0_3) = some r:=h
 clear h
 have H':=aM_ H
 clear H
 go_enter Tryd.func22,Tryd.ntmps22
 go_wp2_with (first | ((with_reducible refine gate_dst (N:=2) rfl ?_);refine box_event ?hg (N:=2) ?hd (cs:=#[.string a0_0,.slice A0_1 l0_1.length c0_1,.slice A0_2 l0_2.length c0_2,.slice A0_3 l0_3.length c0_3]) (t:=33) ?hr ?_;(case hd=>rfl);(case hg=>rfl);(case hr=>first | (go_simp;done) | (go_simp;rfl));intro gb239 hg w3 hbox hb;have n0_:=aM_ (bT_ (by exact bZ_ HB) hb);have n1_:=aM_ (hbox);have n2_:=aM_ ((by rw [hg];exact (bS_ (by exact bZ_ HB)) : w.heap.size ≤ gb239));have n3_:=aM_ ((by rw [hg];exact (bS_ (by exact bZ_ HB)) : w.heap.size ≤ gb239));clear HB;have HB:=n0_;have BK239:=n1_;have GW239:=n2_;have GE239:=n3_;clear n0_ n1_ n2_ n3_;clear hb hbox hg))
 (try simp only [Act.put,sI_,sS_,sZ_])
 go_loopg [11] k (fun kq v11 w'=>∃ (x11_1 : Int),v11 = .int .i64 x11_1 ∧ Aside0 (impl_partsOk.l0 kq l1 l1 (l1.length : Int) x11_1 a0_0 l0_1 l0_2 l0_3 = some r) ∧ Aside0 (kq ≤ k) ∧ Aside0 (w'.heap[gb239]? = some (.cells #[.string a0_0,(.slice A0_1 l0_1.length c0_1),(.slice A0_2 l0_2.length c0_2),(.slice A0_3 l0_3.length c0_3)] 33 (0,0))) ∧ Aside0 (Below w.heap.size w w'))
 case atStart=>exact ⟨(0),(by first | rfl | (simp;done) | (simp [*];done)),H', ⟨Nat.le_refl _⟩,⟨by exact kZ_ BK239⟩,⟨by exact bZ_ HB⟩⟩
 case round =>
  clear H'
  try clear c1
  try clear c2
  try clear p2
  obtain ⟨x11_1,rfl,HA,HK1,BK239,HB⟩:=hrel
  cases gk with
  | zero=>exact absurd HA.out (by simp [impl_partsOk.l0])
  | succ k1 =>
   have H:=HA.out
   clear HA
   simp only [impl_partsOk.l0] at H
   by_cases c4 : x11_1 < (l1.length : Int)
   ·rw [if_pos c4] at H
    have c4b0 : decide (x11_1 < (l1.length : Int)) = true:=decide_eq_true c4
    clear c4
    by_cases c5 : 0 ≤ x11_1
    ·rw [if_pos c5] at H
     have c5b0 : decide (0 ≤ x11_1) = true:=decide_eq_true c5
     clear c5
     by_cases c6 : x11_1 < (l1.length : Int)
     ·rw [if_pos c6] at H
      have c6b0 : decide (x11_1 < (l1.length : Int)) = true:=decide_eq_true c6
      clear c6
      replace H:=oB_ H
      obtain ⟨t243,A70,H⟩:=H
      replace H : (if t243 = true then (if x11_1 ≤ (l1.length : Int) then ((some (l1.take (x11_1 : Int).toNat : List (S44))).bind fun y244=>(impl_partsOk.l1 k1 l1 l1 (l1.length : Int) x11_1 y244 (y244.length : Int) 0 a0_0 l0_1 l0_2 l0_3 ((rd_T44 l1 x11_1).f0) ((rd_T44 l1 x11_1).f1))) else (none)) else (some false)) = some r:=H
      have A7:=aM_ A70
      clear A70
      by_cases c8 : t243 = true
      ·subst c8
       have H1 : (if x11_1 ≤ (l1.length : Int) then ((some (l1.take (x11_1 : Int).toNat : List (S44))).bind fun y244=>(impl_partsOk.l1 k1 l1 l1 (l1.length : Int) x11_1 y244 (y244.length : Int) 0 a0_0 l0_1 l0_2 l0_3 ((rd_T44 l1 x11_1).f0) ((rd_T44 l1 x11_1).f1))) else (none)) = some r:=by rw [if_pos rfl] at H;exact H
       clear H
       have H:=H1
       clear H1
       have c9b0:=eq_true (oT_ (by first | (with_reducible assumption) | assumption) : 0 ≤ x11_1)
       by_cases c10 : x11_1 ≤ (l1.length : Int)
       ·rw [if_pos c10] at H
        have c10b0:=eq_true c10
        have c10b1 : decide (x11_1 ≤ (l1.length : Int)) = true:=decide_eq_true c10
        clear c10
        obtain ⟨y244,hy244⟩ : ∃ y_ : List (S44),y_ = (l1.take (x11_1 : Int).toNat):=⟨_,rfl⟩
        replace H : (impl_partsOk.l1 k1 l1 l1 (l1.length : Int) x11_1 y244 (y244.length : Int) 0 a0_0 l0_1 l0_2 l0_3 ((rd_T44 l1 x11_1).f0) ((rd_T44 l1 x11_1).f1)) = some r:=by first | (rw [hy244];with_reducible exact H) | (have H2_:=(Option.bind_some _ _).symm.trans H;rw [hy244];with_reducible exact H2_) | (have H2_:=(Option.bind_some _ _).symm.trans H;with_reducible exact H2_) | with_reducible exact H | (rw [hy244];exact H) | exact H
        have Ny244:=aM_ hy244
        clear hy244
        have H':=aM_ H
        clear H
        have p241 : 0 ≤ (x11_1 : Int):=oT_ (by first | (with_reducible assumption) | assumption)
        have q241 : x11_1 < (l1.length : Int):=oT_ (by first | (with_reducible assumption) | assumption)
        obtain ⟨ad241,e241,hx241_0,hx241_1⟩:=at_T44 HR1.out x11_1 p241 q241
        cases e241
        replace hx241_0:=(HB.out.cell (wL_ w _ hx241_0)).trans hx241_0
        replace hx241_1:=(HB.out.cell (wL_ w _ hx241_1)).trans hx241_1
        replace p241:=eq_true p241
        replace q241:=eq_true q241
        go_wp2_with (first | ((with_reducible refine gate_dst (N:=6) rfl ?_);refine box_event ?hg (N:=6) ?hd (cs:=#[.int .i64 0,.bool false]) (t:=44) ?hr ?_;(case hd=>rfl);(case hg=>rfl);(case hr=>first | (go_simp;done) | (go_simp;rfl));intro gb242 hg w11 hbox hb;have n0_:=aM_ (blk_below (g:=gb239) (o:=.cells #[.string a0_0,.slice A0_1 l0_1.length c0_1,.slice A0_2 l0_2.length c0_2,.slice A0_3 l0_3.length c0_3] 33 (0,0)) (by exact kZ_ BK239) hb);have n1_:=aM_ (bT_ (by exact bZ_ HB) hb);have n2_:=aM_ (hbox);have n3_:=aM_ ((by rw [hg];exact (bS_ (by exact bZ_ HB)) : w.heap.size ≤ gb242));have n4_:=aM_ ((by rw [hg];exact (bS_ (by exact bZ_ HB)) : w.heap.size ≤ gb242));have n5_:=aM_ ((by rw [hg];exact Nat.ne_of_lt (blk_lt (g:=gb239) (o:=.cells #[.string a0_0,.slice A0_1 l0_1.length c0_1,.slice A0_2 l0_2.length c0_2,.slice A0_3 l0_3.length c0_3] 33 (0,0)) (by exact kZ_ BK239)) : gb239 ≠ gb242));have n6_:=aM_ ((by rw [hg];exact Nat.ne_of_gt (blk_lt (g:=gb239) (o:=.cells #[.string a0_0,.slice A0_1 l0_1.length c0_1,.slice A0_2 l0_2.length c0_2,.slice A0_3 l0_3.length c0_3] 33 (0,0)) (by exact kZ_ BK239)) : gb242 ≠ gb239));clear BK239;clear HB;have BK239:=n0_;have HB:=n1_;have BK242:=n2_;have GW242:=n3_;have GE242:=n4_;have NB239_242:=n5_;have NB242_239:=n6_;clear n0_ n1_ n2_ n3_ n4_ n5_ n6_;clear hb hbox hg;have hnb12:=NB242_239.out;have hnc12:=NB239_242.out;have hcz13_0 : w11.cell? ⟨gb242,0,none⟩ = some (.int .i64 0):=(kC_ BK242.out 0).trans rfl;have hcz13_1 : w11.cell? ⟨gb242,1,none⟩ = some (.bool false):=(kC_ BK242.out 1).trans rfl;have hfz13_0:=kF_ BK242.out 0;have hfz13_1:=kF_ BK242.out 1) | ((with_reducible refine gate_store (t:=44) (p:=6) rfl ?_);refine store_event (t:=44) (p:=6) (v:=?vo_w14) (w1:=((w11.setCell ⟨gb242,0,none⟩ (.int .i64 ((rd_T44 l1 x11_1).f0))).setCell ⟨gb242,1,none⟩ (.bool ((rd_T44 l1 x11_1).f1)))) ?hg ?ho ?hn ?hr ?_;(case ho=>rfl);(case hg=>rfl);(case hn=>rfl);(case hr=>first | (go_simp;done) | (go_simp;rfl));intro w14 hw;have n0_ : Aside0 (w14.heap[gb239]? = some (.cells #[.string a0_0,.slice A0_1 l0_1.length c0_1,.slice A0_2 l0_2.length c0_2,.slice A0_3 l0_3.length c0_3] 33 (0,0))):=⟨(by rw [hw];exact (by exact kW_ BK239))⟩;have n1_ : Aside0 (w14.heap[gb242]? = some (.cells #[.int .i64 ((rd_T44 l1 x11_1).f0),.bool ((rd_T44 l1 x11_1).f1)] 44 (0,0))):=⟨(by rw [hw];exact (by (with_reducible repeat (first | refine kN_ ?_ _ | refine kD_ ?_ | refine kA_ ?_ _));refine kP_ (cs:=#[.int .i64 ((rd_T44 l1 x11_1).f0),.bool false]) ?_ 1 _ rfl;(with_reducible repeat (first | refine kN_ ?_ _ | refine kD_ ?_ | refine kA_ ?_ _));refine kP_ (cs:=#[.int .i64 0,.bool false]) ?_ 0 _ rfl;exact kZ_ BK242))⟩;have n2_ : Aside0 (Below w.heap.size w w14):=⟨(by rw [hw];exact (by exact bZ_ HB))⟩;clear hw;clear BK239;clear BK242;clear HB;have BK239:=n0_;have BK242:=n1_;have HB:=n2_;clear n0_ n1_ n2_;have hcz15_0 : w14.cell? ⟨gb242,0,none⟩ = some (.int .i64 ((rd_T44 l1 x11_1).f0)):=(kC_ BK242.out 0).trans rfl;have hcz15_1 : w14.cell? ⟨gb242,1,none⟩ = some (.bool ((rd_T44 l1 x11_1).f1)):=(kC_ BK242.out 1).trans rfl;have hfz15_0:=kF_ BK242.out 0;have hfz15_1:=kF_ BK242.out 1;have hcz16_0 : w14.cell? ⟨gb239,0,none⟩ = some (.string a0_0):=(kC_ BK239.out 0).trans rfl;have hcz16_1 : w14.cell? ⟨gb239,1,none⟩ = some (.slice A0_1 l0_1.length c0_1):=(kC_ BK239.out 1).trans rfl;have hcz16_2 : w14.cell? ⟨gb239,2,none⟩ = some (.slice A0_2 l0_2.length c0_2):=(kC_ BK239.out 2).trans rfl;have hcz16_3 : w14.cell? ⟨gb239,3,none⟩ = some (.slice A0_3 l0_3.length c0_3):=(kC_ BK239.out 3).trans rfl;have hfz16_0:=kF_ BK239.out 0;have hfz16_1:=kF_ BK239.out 1;have hfz16_2:=kF_ BK239.out 2;have hfz16_3:=kF_ BK239.out 3) | ((with_reducible refine gate_callee (f:=20) rfl ?_);refine goesL_ (some 22) rfl rfl Tryd.func20 (by kernel_rfl) rfl #[.int .i64 ((rd_T44 l1 x11_1).f0),.int .i64 0,.int .i64 (wrap64 ((l0_1.length : Int) - 1))] rfl (by (try simp only [mA_,mC_,mN_]);first | done | rfl | (simp only [lD_,lT_];rfl)) ?_;(with_reducible refine (impl_in.calls ((rd_T44 l1 x11_1).f0) 0 (wrap64 ((l0_1.length : Int) - 1)) true _ A7.out).mono ?_);rintro e w' ⟨rfl,⟨nd,rfl⟩⟩;refine ⟨_,rfl,?_⟩;have q17 : (x11_1 : Int) ≤ ((l1.length : Int) : Int):=oT_ (by first | (with_reducible assumption) | assumption);obtain ⟨i017,hi017,_,hsz17,_⟩:=info_parts info44;have hroom17 : l1.length ≤ c1:=HC1.out;have hC17 : Kd.C k44 _ (some ad241) l1.length l1:=HR1.out;have hcut17:=cut_to (P:=Tryd.prog) 30 44 .i64 Tryd.underlying30 hi017 (some ad241) l1.length c1 x11_1 (oT_ (by first | (with_reducible assumption) | assumption)) q17 hroom17;have hr17:=Kd.C_take (m:=(x11_1 : Int).toNat) hC17 (by omega);have hy17 : y244.length = (x11_1 : Int).toNat:=(by rw [Ny244.out,lT_];omega);rw [← Ny244.out] at hr17;rw [← hy17] at hcut17;have HR247:=aM_ hr17;have HC247:=aM_ (show y244.length ≤ c1 from by omega);clear hr17 hC17 hroom17 hi017 hsz17;have KY17:=aM_ hy17;clear hy17;replace q17:=eq_true q17))
        (try simp only [Act.put,sI_,sS_,sZ_])
        go_loopg [28] k1 (fun kq v28 w'=>∃ (x28_2 : Int),v28 = .int .i64 x28_2 ∧ Aside0 (impl_partsOk.l1 kq l1 l1 (l1.length : Int) x11_1 y244 (y244.length : Int) x28_2 a0_0 l0_1 l0_2 l0_3 ((rd_T44 l1 x11_1).f0) ((rd_T44 l1 x11_1).f1) = some r) ∧ Aside0 (kq ≤ k1) ∧ Aside0 (w'.heap[gb239]? = some (.cells #[.string a0_0,(.slice A0_1 l0_1.length c0_1),(.slice A0_2 l0_2.length c0_2),(.slice A0_3 l0_3.length c0_3)] 33 (0,0))) ∧ Aside0 (w'.heap[gb242]? = some (.cells #[.int .i64 ((rd_T44 l1 x11_1).f0),.bool ((rd_T44 l1 x11_1).f1)] 44 (0,0))) ∧ Aside0 (Below w.heap.size w w'))
        case atStart=>exact ⟨(0),(by first | rfl | (simp;done) | (simp [*];done)),H', ⟨Nat.le_refl _⟩,⟨by exact kZ_ BK239⟩,⟨by exact kZ_ BK242⟩,⟨by exact bZ_ HB⟩⟩
        case round =>
         clear H'
         try clear c1
         try clear q1
         try clear c2
         try clear p2
         try clear q2
         try clear hx2
         try clear c4
         try clear c4b0
         try clear c5
         try clear c5b0
         try clear c6
         try clear c6b0
         try clear p6
         try clear c8
         try clear c9
         try clear c9b0
         try clear c10
         try clear c10b0
         try clear c10b1
         try clear c12
         try clear q17
         try clear hcz13_0
         try clear hcz13_1
         try clear hcz15_0
         try clear hcz15_1
         try clear hcz16_0
         try clear hcz16_1
         try clear hcz16_2
         try clear hcz16_3
         try clear hfz13_0
         try clear hfz13_1
         try clear hfz15_0
         try clear hfz15_1
         try clear hfz16_0
         try clear hfz16_1
         try clear hfz16_2
         try clear hfz16_3
         try clear hx241_0
         try clear hx241_1
         try clear p2
         try clear p241
         try clear q17
         try clear q241
         obtain ⟨x28_2,rfl,HA,HK2,BK239,BK242,HB⟩:=hrel
         cases gk with
         | zero=>exact absurd HA.out (by simp [impl_partsOk.l1])
         | succ k2 =>
          have H:=HA.out
          clear HA
          simp only [impl_partsOk.l1] at H
          by_cases c18 : x28_2 < (y244.length : Int)
          ·rw [if_pos c18] at H
           have c18b0 : decide (x28_2 < (y244.length : Int)) = true:=decide_eq_true c18
           clear c18
           by_cases c19 : 0 ≤ x28_2
           ·rw [if_pos c19] at H
            have c19b0 : decide (0 ≤ x28_2) = true:=decide_eq_true c19
            clear c19
            by_cases c20 : x28_2 < (y244.length : Int)
            ·rw [if_pos c20] at H
             have c20b0 : decide (x28_2 < (y244.length : Int)) = true:=decide_eq_true c20
             clear c20
             by_cases c21 : ((rd_T44 y244 x28_2).f0) = ((rd_T44 l1 x11_1).f0)
             ·rw [if_pos c21] at H
              have c21b0 : (((rd_T44 y244 x28_2).f0) == ((rd_T44 l1 x11_1).f0)) = true:=beq_iff_eq.mpr c21
              have c21b1 : (((rd_T44 y244 x28_2).f0) != ((rd_T44 l1 x11_1).f0)) = false:=bne_eq_false_iff_eq.mpr c21
              clear c21
              obtain rfl:=Option.some.inj H
              have p248 : 0 ≤ (x28_2 : Int):=oT_ (by first | (with_reducible assumption) | assumption)
              have q248 : x28_2 < (y244.length : Int):=oT_ (by first | (with_reducible assumption) | assumption)
              obtain ⟨ad248,e248,hx248_0,hx248_1⟩:=at_T44 HR247.out x28_2 p248 q248
              obtain rfl : ad241 = ad248:=(by injection e248)
              replace hx248_0:=(HB.out.cell (wL_ w _ hx248_0)).trans hx248_0
              replace hx248_1:=(HB.out.cell (wL_ w _ hx248_1)).trans hx248_1
              replace p248:=eq_true p248
              replace q248:=eq_true q248
              go_wp2_with (first | ((with_reducible refine gate_dst (N:=8) rfl ?_);refine box_event ?hg (N:=8) ?hd (cs:=#[.int .i64 0,.bool false]) (t:=44) ?hr ?_;(case hd=>rfl);(case hg=>rfl);(case hr=>first | (go_simp;done) | (go_simp;rfl));intro gb249 hg w22 hbox hb;have n0_:=aM_ (blk_below (g:=gb239) (o:=.cells #[.string a0_0,.slice A0_1 l0_1.length c0_1,.slice A0_2 l0_2.length c0_2,.slice A0_3 l0_3.length c0_3] 33 (0,0)) (by exact kZ_ BK239) hb);have n1_:=aM_ (blk_below (g:=gb242) (o:=.cells #[.int .i64 ((rd_T44 l1 x11_1).f0),.bool ((rd_T44 l1 x11_1).f1)] 44 (0,0)) (by exact kZ_ BK242) hb);have n2_:=aM_ (bT_ (by exact bZ_ HB) hb);have n3_:=aM_ (hbox);have n4_:=aM_ ((by rw [hg];exact (bS_ (by exact bZ_ HB)) : w.heap.size ≤ gb249));have n5_:=aM_ ((by rw [hg];exact (bS_ (by exact bZ_ HB)) : w.heap.size ≤ gb249));have n6_:=aM_ ((by rw [hg];exact Nat.ne_of_lt (blk_lt (g:=gb239) (o:=.cells #[.string a0_0,.slice A0_1 l0_1.length c0_1,.slice A0_2 l0_2.length c0_2,.slice A0_3 l0_3.length c0_3] 33 (0,0)) (by exact kZ_ BK239)) : gb239 ≠ gb249));have n7_:=aM_ ((by rw [hg];exact Nat.ne_of_gt (blk_lt (g:=gb239) (o:=.cells #[.string a0_0,.slice A0_1 l0_1.length c0_1,.slice A0_2 l0_2.length c0_2,.slice A0_3 l0_3.length c0_3] 33 (0,0)) (by exact kZ_ BK239)) : gb249 ≠ gb239));have n8_:=aM_ ((by rw [hg];exact Nat.ne_of_lt (blk_lt (g:=gb242) (o:=.cells #[.int .i64 ((rd_T44 l1 x11_1).f0),.bool ((rd_T44 l1 x11_1).f1)] 44 (0,0)) (by exact kZ_ BK242)) : gb242 ≠ gb249));have n9_:=aM_ ((by rw [hg];exact Nat.ne_of_gt (blk_lt (g:=gb242) (o:=.cells #[.int .i64 ((rd_T44 l1 x11_1).f0),.bool ((rd_T44 l1 x11_1).f1)] 44 (0,0)) (by exact kZ_ BK242)) : gb249 ≠ gb242));clear BK239;clear BK242;clear HB;have BK239:=n0_;have BK242:=n1_;have HB:=n2_;have BK249:=n3_;have GW249:=n4_;have GE249:=n5_;have NB239_249:=n6_;have NB249_239:=n7_;have NB242_249:=n8_;have NB249_242:=n9_;clear n0_ n1_ n2_ n3_ n4_ n5_ n6_ n7_ n8_ n9_;clear hb hbox hg;have hnb23:=NB249_239.out;have hnc23:=NB239_249.out;have hnb24:=NB249_242.out;have hnc24:=NB242_249.out;have hcz25_0 : w22.cell? ⟨gb249,0,none⟩ = some (.int .i64 0):=(kC_ BK249.out 0).trans rfl;have hcz25_1 : w22.cell? ⟨gb249,1,none⟩ = some (.bool false):=(kC_ BK249.out 1).trans rfl;have hfz25_0:=kF_ BK249.out 0;have hfz25_1:=kF_ BK249.out 1;have hnb26:=NB242_239.out;have hnc26:=NB239_242.out;have hcz27_0 : w22.cell? ⟨gb242,0,none⟩ = some (.int .i64 ((rd_T44 l1 x11_1).f0)):=(kC_ BK242.out 0).trans rfl;have hcz27_1 : w22.cell? ⟨gb242,1,none⟩ = some (.bool ((rd_T44 l1 x11_1).f1)):=(kC_ BK242.out 1).trans rfl;have hfz27_0:=kF_ BK242.out 0;have hfz27_1:=kF_ BK242.out 1))
              go_ret
              exact ⟨by first | rfl | (simp [errW_none,errW_some] <;> rfl) | (simp [*, errW_none,errW_some] <;> rfl),by exact bZ_ HB⟩
             ·rw [if_neg c21] at H
              have c21b0 : (((rd_T44 y244 x28_2).f0) == ((rd_T44 l1 x11_1).f0)) = false:=beq_eq_false_iff_ne.mpr c21
              have c21b1 : (((rd_T44 y244 x28_2).f0) != ((rd_T44 l1 x11_1).f0)) = true:=bne_iff_ne.mpr c21
              have H':=aM_ H
              clear H
              have p248 : 0 ≤ (x28_2 : Int):=oT_ (by first | (with_reducible assumption) | assumption)
              have q248 : x28_2 < (y244.length : Int):=oT_ (by first | (with_reducible assumption) | assumption)
              obtain ⟨ad248,e248,hx248_0,hx248_1⟩:=at_T44 HR247.out x28_2 p248 q248
              obtain rfl : ad241 = ad248:=(by injection e248)
              replace hx248_0:=(HB.out.cell (wL_ w _ hx248_0)).trans hx248_0
              replace hx248_1:=(HB.out.cell (wL_ w _ hx248_1)).trans hx248_1
              replace p248:=eq_true p248
              replace q248:=eq_true q248
              go_wp2_with (first | ((with_reducible refine gate_dst (N:=8) rfl ?_);refine box_event ?hg (N:=8) ?hd (cs:=#[.int .i64 0,.bool false]) (t:=44) ?hr ?_;(case hd=>rfl);(case hg=>rfl);(case hr=>first | (go_simp;done) | (go_simp;rfl));intro gb249 hg w28 hbox hb;have n0_:=aM_ (blk_below (g:=gb239) (o:=.cells #[.string a0_0,.slice A0_1 l0_1.length c0_1,.slice A0_2 l0_2.length c0_2,.slice A0_3 l0_3.length c0_3] 33 (0,0)) (by exact kZ_ BK239) hb);have n1_:=aM_ (blk_below (g:=gb242) (o:=.cells #[.int .i64 ((rd_T44 l1 x11_1).f0),.bool ((rd_T44 l1 x11_1).f1)] 44 (0,0)) (by exact kZ_ BK242) hb);have n2_:=aM_ (bT_ (by exact bZ_ HB) hb);have n3_:=aM_ (hbox);have n4_:=aM_ ((by rw [hg];exact (bS_ (by exact bZ_ HB)) : w.heap.size ≤ gb249));have n5_:=aM_ ((by rw [hg];exact (bS_ (by exact bZ_ HB)) : w.heap.size ≤ gb249));have n6_:=aM_ ((by rw [hg];exact Nat.ne_of_lt (blk_lt (g:=gb239) (o:=.cells #[.string a0_0,.slice A0_1 l0_1.length c0_1,.slice A0_2 l0_2.length c0_2,.slice A0_3 l0_3.length c0_3] 33 (0,0)) (by exact kZ_ BK239)) : gb239 ≠ gb249));have n7_:=aM_ ((by rw [hg];exact Nat.ne_of_gt (blk_lt (g:=gb239) (o:=.cells #[.string a0_0,.slice A0_1 l0_1.length c0_1,.slice A0_2 l0_2.length c0_2,.slice A0_3 l0_3.length c0_3] 33 (0,0)) (by exact kZ_ BK239)) : gb249 ≠ gb239));have n8_:=aM_ ((by rw [hg];exact Nat.ne_of_lt (blk_lt (g:=gb242) (o:=.cells #[.int .i64 ((rd_T44 l1 x11_1).f0),.bool ((rd_T44 l1 x11_1).f1)] 44 (0,0)) (by exact kZ_ BK242)) : gb242 ≠ gb249));have n9_:=aM_ ((by rw [hg];exact Nat.ne_of_gt (blk_lt (g:=gb242) (o:=.cells #[.int .i64 ((rd_T44 l1 x11_1).f0),.bool ((rd_T44 l1 x11_1).f1)] 44 (0,0)) (by exact kZ_ BK242)) : gb249 ≠ gb242));clear BK239;clear BK242;clear HB;have BK239:=n0_;have BK242:=n1_;have HB:=n2_;have BK249:=n3_;have GW249:=n4_;have GE249:=n5_;have NB239_249:=n6_;have NB249_239:=n7_;have NB242_249:=n8_;have NB249_242:=n9_;clear n0_ n1_ n2_ n3_ n4_ n5_ n6_ n7_ n8_ n9_;clear hb hbox hg;have hnb29:=NB249_239.out;have hnc29:=NB239_249.out;have hnb30:=NB249_242.out;have hnc30:=NB242_249.out;have hcz31_0 : w28.cell? ⟨gb249,0,none⟩ = some (.int .i64 0):=(kC_ BK249.out 0).trans rfl;have hcz31_1 : w28.cell? ⟨gb249,1,none⟩ = some (.bool false):=(kC_ BK249.out 1).trans rfl;have hfz31_0:=kF_ BK249.out 0;have hfz31_1:=kF_ BK249.out 1;have hnb32:=NB242_239.out;have hnc32:=NB239_242.out;have hcz33_0 : w28.cell? ⟨gb242,0,none⟩ = some (.int .i64 ((rd_T44 l1 x11_1).f0)):=(kC_ BK242.out 0).trans rfl;have hcz33_1 : w28.cell? ⟨gb242,1,none⟩ = some (.bool ((rd_T44 l1 x11_1).f1)):=(kC_ BK242.out 1).trans rfl;have hfz33_0:=kF_ BK242.out 0;have hfz33_1:=kF_ BK242.out 1))
              go_roundg k2
              case measure=>have:=HK1.out;have:=HK2.out;omega
              case rel=>exact ⟨(wrap64 (x28_2 + 1)),(by first | rfl | (simp;done) | (simp [*];done)),H', ⟨by have:=HK1.out;have:=HK2.out;omega⟩,⟨by exact kW_ BK239⟩,⟨by exact kW_ BK242⟩,⟨by exact bZ_ HB⟩⟩
            ·rw [if_neg c20] at H
             exact absurd H (by simp)
           ·rw [if_neg c19] at H
            exact absurd H (by simp)
          ·rw [if_neg c18] at H
           have c18b0 : decide (x28_2 < (y244.length : Int)) = false:=decide_eq_false c18
           clear c18
           have H':=aM_ H
           clear H
           go_wp2
           go_roundg k2
           case measure=>have:=HK1.out;have:=HK2.out;omega
           case rel=>exact ⟨(wrap64 (x11_1 + 1)),(by first | rfl | (simp;done) | (simp [*];done)),H', ⟨by have:=HK1.out;have:=HK2.out;omega⟩,⟨by exact kZ_ BK239⟩,⟨by exact bZ_ HB⟩⟩
       ·rw [if_neg c10] at H
        exact absurd H (by simp)
      ·replace c8:=Bool.eq_false_iff.mpr c8
       subst c8
       have H1 : (some false) = some r:=by rw [if_neg (show ¬ (false = true) by decide)] at H;exact H
       clear H
       have H:=H1
       clear H1
       obtain rfl:=Option.some.inj H
       have p241 : 0 ≤ (x11_1 : Int):=oT_ (by first | (with_reducible assumption) | assumption)
       have q241 : x11_1 < (l1.length : Int):=oT_ (by first | (with_reducible assumption) | assumption)
       obtain ⟨ad241,e241,hx241_0,hx241_1⟩:=at_T44 HR1.out x11_1 p241 q241
       cases e241
       replace hx241_0:=(HB.out.cell (wL_ w _ hx241_0)).trans hx241_0
       replace hx241_1:=(HB.out.cell (wL_ w _ hx241_1)).trans hx241_1
       replace p241:=eq_true p241
       replace q241:=eq_true q241
       go_wp2_with (first | ((with_reducible refine gate_dst (N:=6) rfl ?_);refine box_event ?hg (N:=6) ?hd (cs:=#[.int .i64 0,.bool false]) (t:=44) ?hr ?_;(case hd=>rfl);(case hg=>rfl);(case hr=>first | (go_simp;done) | (go_simp;rfl));intro gb242 hg w34 hbox hb;have n0_:=aM_ (blk_below (g:=gb239) (o:=.cells #[.string a0_0,.slice A0_1 l0_1.length c0_1,.slice A0_2 l0_2.length c0_2,.slice A0_3 l0_3.length c0_3] 33 (0,0)) (by exact kZ_ BK239) hb);have n1_:=aM_ (bT_ (by exact bZ_ HB) hb);have n2_:=aM_ (hbox);have n3_:=aM_ ((by rw [hg];exact (bS_ (by exact bZ_ HB)) : w.heap.size ≤ gb242));have n4_:=aM_ ((by rw [hg];exact (bS_ (by exact bZ_ HB)) : w.heap.size ≤ gb242));have n5_:=aM_ ((by rw [hg];exact Nat.ne_of_lt (blk_lt (g:=gb239) (o:=.cells #[.string a0_0,.slice A0_1 l0_1.length c0_1,.slice A0_2 l0_2.length c0_2,.slice A0_3 l0_3.length c0_3] 33 (0,0)) (by exact kZ_ BK239)) : gb239 ≠ gb242));have n6_:=aM_ ((by rw [hg];exact Nat.ne_of_gt (blk_lt (g:=gb239) (o:=.cells #[.string a0_0,.slice A0_1 l0_1.length c0_1,.slice A0_2 l0_2.length c0_2,.slice A0_3 l0_3.length c0_3] 33 (0,0)) (by exact kZ_ BK239)) : gb242 ≠ gb239));clear BK239;clear HB;have BK239:=n0_;have HB:=n1_;have BK242:=n2_;have GW242:=n3_;have GE242:=n4_;have NB239_242:=n5_;have NB242_239:=n6_;clear n0_ n1_ n2_ n3_ n4_ n5_ n6_;clear hb hbox hg;have hnb35:=NB242_239.out;have hnc35:=NB239_242.out;have hcz36_0 : w34.cell? ⟨gb242,0,none⟩ = some (.int .i64 0):=(kC_ BK242.out 0).trans rfl;have hcz36_1 : w34.cell? ⟨gb242,1,none⟩ = some (.bool false):=(kC_ BK242.out 1).trans rfl;have hfz36_0:=kF_ BK242.out 0;have hfz36_1:=kF_ BK242.out 1;have hcz37_0 : w34.cell? ⟨gb239,0,none⟩ = some (.string a0_0):=(kC_ BK239.out 0).trans rfl;have hcz37_1 : w34.cell? ⟨gb239,1,none⟩ = some (.slice A0_1 l0_1.length c0_1):=(kC_ BK239.out 1).trans rfl;have hcz37_2 : w34.cell? ⟨gb239,2,none⟩ = some (.slice A0_2 l0_2.length c0_2):=(kC_ BK239.out 2).trans rfl;have hcz37_3 : w34.cell? ⟨gb239,3,none⟩ = some (.slice A0_3 l0_3.length c0_3):=(kC_ BK239.out 3).trans rfl;have hfz37_0:=kF_ BK239.out 0;have hfz37_1:=kF_ BK239.out 1;have hfz37_2:=kF_ BK239.out 2;have hfz37_3:=kF_ BK239.out 3) | ((with_reducible refine gate_callee (f:=20) rfl ?_);refine goesL_ (some 22) rfl rfl Tryd.func20 (by kernel_rfl) rfl #[.int .i64 ((rd_T44 l1 x11_1).f0),.int .i64 0,.int .i64 (wrap64 ((l0_1.length : Int) - 1))] rfl (by (try simp only [mA_,mC_,mN_]);first | done | rfl | (simp only [lD_,lT_];rfl)) ?_;(with_reducible refine (impl_in.calls ((rd_T44 l1 x11_1).f0) 0 (wrap64 ((l0_1.length : Int) - 1)) false _ A7.out).mono ?_);rintro e w' ⟨rfl,⟨nd,rfl⟩⟩;refine ⟨_,rfl,?_⟩))
       go_ret
       exact ⟨by first | rfl | (simp [errW_none,errW_some] <;> rfl) | (simp [*, errW_none,errW_some] <;> rfl),by exact bZ_ HB⟩
     ·rw [if_neg c6] at H
      exact absurd H (by simp)
    ·rw [if_neg c5] at H
     exact absurd H (by simp)
   ·rw [if_neg c4] at H
    have c4b0 : decide (x11_1 < (l1.length : Int)) = false:=decide_eq_false c4
    clear c4
    replace H:=oB_ H
    obtain ⟨t240,A380,H⟩:=H
    replace H : (some t240) = some r:=H
    have A38:=aM_ A380
    clear A380
    obtain rfl:=Option.some.inj H
    go_wp2_with (first | ((with_reducible refine gate_callee (f:=20) rfl ?_);refine goesL_ (some 41) rfl rfl Tryd.func20 (by kernel_rfl) rfl #[.int .i64 (l1.length : Int),.int .i64 1,.int .i64 2] rfl (by (try simp only [mA_,mC_,mN_]);first | done | rfl | (simp only [lD_,lT_];rfl)) ?_;(with_reducible refine (impl_in.calls (l1.length : Int) 1 2 t240 _ A38.out).mono ?_);rintro e w' ⟨rfl,⟨nd,rfl⟩⟩;refine ⟨_,rfl,?_⟩))
    go_ret
    exact ⟨by first | rfl | (simp [errW_none,errW_some] <;> rfl) | (simp [*, errW_none,errW_some] <;> rfl),by exact bZ_ HB⟩
end Go.Proofs.YtllgmgpfdnofmaaDoor.PFnExactCheckDef
