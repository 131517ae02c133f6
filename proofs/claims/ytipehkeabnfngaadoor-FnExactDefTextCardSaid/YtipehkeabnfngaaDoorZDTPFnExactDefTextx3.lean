import Derived.Test.YtipehkeabnfngaaDoorZDTPFnExactDefTextx0
import Derived.Test.YtipehkeabnfngaaDoorZDTPFnExactDefTextx1
namespace Go.Proofs.YtipehkeabnfngaaDoor.PFnExactDefText
open Go.RowKit Go.Proofs.YtipehkeabnfngaaDoorW.PrintWords Go.Proofs.YtipehkeabnfngaaDoorW.PrintLast Go.Proofs.YtipehkeabnfngaaDoorW.PrintMore Go.Proofs.YtipehkeabnfngaaDoor.Xtra
attribute [local go_sem] max2_int min2_int max_two min_two max_three min_three max_four min_four str_leq str_gtr str_geq setCell_drewN cell_set2 cell_set3   -- for this text's walks alone
set_option linter.unusedVariables false
set_option linter.unusedSimpArgs false
mutual
def impl_partsOk.l0 : Nat → List (S85) → List (S85) → Int → Int → ByteArray → List (S82) → List (S85) → List (S69) → Option (Bool)
 | 0,_,_,_,_,_,_,_,_=>none
 | k + 1,x1,x9,x10,x11,x135000,x135001,x135002,x135003=>if x11 < x10 then (if 0 ≤ x11 then (if x11 < (x9.length : Int) then ((impl_in.f ((rd_T85 x9 x11).f0) 0 (wrap64 ((x135001.length : Int) - 1))).bind fun t138=>(if t138 = true then (if x11 ≤ (x1.length : Int) then ((some (x1.take (x11 : Int).toNat : List (S85))).bind fun y139=>(impl_partsOk.l1 k x1 x9 x10 x11 y139 (y139.length : Int) 0 x135000 x135001 x135002 x135003 ((rd_T85 x9 x11).f0) ((rd_T85 x9 x11).f1))) else (none)) else (some false))) else (none)) else (none)) else ((impl_in.f (x1.length : Int) 1 2).bind fun t135=>(some t135))
def impl_partsOk.l1 : Nat → List (S85) → List (S85) → Int → Int → List (S85) → Int → Int → ByteArray → List (S82) → List (S85) → List (S69) → Int → Bool → Option (Bool)
 | 0,_,_,_,_,_,_,_,_,_,_,_,_,_=>none
 | k + 1,x1,x9,x10,x11,x26,x27,x28,x135000,x135001,x135002,x135003,x138000,x138001=>if x28 < x27 then (if 0 ≤ x28 then (if x28 < (x26.length : Int) then (if ((rd_T85 x26 x28).f0) = x138000 then (some false) else (impl_partsOk.l1 k x1 x9 x10 x11 x26 x27 (wrap64 (x28 + 1)) x135000 x135001 x135002 x135003 x138000 x138001)) else (none)) else (none)) else (impl_partsOk.l0 k x1 x9 x10 (wrap64 (x11 + 1)) x135000 x135001 x135002 x135003)
end
def impl_partsOk.f (k : Nat) (a0_0 : ByteArray) (l0_1 : List (S82)) (l0_2 : List (S85)) (l0_3 : List (S69)) (l1 : List (S85)) : Option (Bool):=impl_partsOk.l0 k l1 l1 (l1.length : Int) 0 a0_0 l0_1 l0_2 l0_3
theorem impl_partsOk.mono_l : ∀ k,(∀ y0 y1 y2 y3 y4 y5 y6 y7,LeO (impl_partsOk.l0 k y0 y1 y2 y3 y4 y5 y6 y7) (impl_partsOk.l0 (k + 1) y0 y1 y2 y3 y4 y5 y6 y7)) ∧ (∀ y0 y1 y2 y3 y4 y5 y6 y7 y8 y9 y10 y11 y12,LeO (impl_partsOk.l1 k y0 y1 y2 y3 y4 y5 y6 y7 y8 y9 y10 y11 y12) (impl_partsOk.l1 (k + 1) y0 y1 y2 y3 y4 y5 y6 y7 y8 y9 y10 y11 y12))
 | 0=>⟨fun _ _ _ _ _ _ _ _ r h=>by simp [impl_partsOk.l0] at h,fun _ _ _ _ _ _ _ _ _ _ _ _ _ r h=>by simp [impl_partsOk.l1] at h⟩
 | k + 1=>by
  obtain ⟨ih0,ih1⟩:=impl_partsOk.mono_l k
  refine ⟨?_,?_⟩
  ·intro y0 y1 y2 y3 y4 y5 y6 y7
   unfold impl_partsOk.l0
   repeat' first
   | (with_reducible exact ih0 _ _ _ _ _ _ _ _)
   | (with_reducible exact ih1 _ _ _ _ _ _ _ _ _ _ _ _ _)
   | (with_reducible exact LeO.refl _)
   | (with_reducible exact LeO.none _)
   | (with_reducible refine LeO.ite ?_ ?_)
   | (with_reducible refine LeO.bind ?_ (fun _=>?_))
   | exact ih0 _ _ _ _ _ _ _ _
   | exact ih1 _ _ _ _ _ _ _ _ _ _ _ _ _
   | exact LeO.none _
   | refine LeO.ite ?_ ?_
   | refine LeO.bind ?_ (fun _=>?_)
  ·intro y0 y1 y2 y3 y4 y5 y6 y7 y8 y9 y10 y11 y12
   unfold impl_partsOk.l1
   repeat' first
   | (with_reducible exact ih0 _ _ _ _ _ _ _ _)
   | (with_reducible exact ih1 _ _ _ _ _ _ _ _ _ _ _ _ _)
   | (with_reducible exact LeO.refl _)
   | (with_reducible exact LeO.none _)
   | (with_reducible refine LeO.ite ?_ ?_)
   | (with_reducible refine LeO.bind ?_ (fun _=>?_))
   | exact ih0 _ _ _ _ _ _ _ _
   | exact ih1 _ _ _ _ _ _ _ _ _ _ _ _ _
   | exact LeO.none _
   | refine LeO.ite ?_ ?_
   | refine LeO.bind ?_ (fun _=>?_)
theorem impl_partsOk.mono : ∀ a0 a1 a2 a3 a4 k,LeO (impl_partsOk.f k a0 a1 a2 a3 a4) (impl_partsOk.f (k + 1) a0 a1 a2 a3 a4):=by
 intro a0 a1 a2 a3 a4 k
 obtain ⟨ih0,ih1⟩:=impl_partsOk.mono_l k
 unfold impl_partsOk.f
 repeat' first
   | (with_reducible exact ih0 _ _ _ _ _ _ _ _)
   | (with_reducible exact ih1 _ _ _ _ _ _ _ _ _ _ _ _ _)
   | (with_reducible exact LeO.refl _)
   | (with_reducible exact LeO.none _)
   | (with_reducible refine LeO.ite ?_ ?_)
   | (with_reducible refine LeO.bind ?_ (fun _=>?_))
   | exact ih0 _ _ _ _ _ _ _ _
   | exact ih1 _ _ _ _ _ _ _ _ _ _ _ _ _
   | exact LeO.none _
   | refine LeO.ite ?_ ?_
   | refine LeO.bind ?_ (fun _=>?_)
set_option maxHeartbeats 8000000 in
set_option maxRecDepth 100000 in
theorem impl_partsOk.calls (k : Nat) (a0_0 : ByteArray) (A0_1 : Option Addr) (c0_1 : Nat) (l0_1 : List (S82)) (A0_2 : Option Addr) (c0_2 : Nat) (l0_2 : List (S85)) (A0_3 : Option Addr) (c0_3 : Nat) (l0_3 : List (S69)) (A1 : Option Addr) (c1 : Nat) (l1 : List (S85)) (r : Bool) (w : World) (hr0_1 : Kd.C k82 w A0_1 l0_1.length l0_1) (hc0_1 : l0_1.length ≤ c0_1) (hr0_2 : Kd.C k85 w A0_2 l0_2.length l0_2) (hc0_2 : l0_2.length ≤ c0_2) (hr0_3 : Kd.C k69 w A0_3 l0_3.length l0_3) (hc0_3 : l0_3.length ≤ c0_3) (hr1 : Kd.C k85 w A1 l1.length l1) (hc1 : l1.length ≤ c1) (h : impl_partsOk.f k a0_0 l0_1 l0_2 l0_3 l1 = some r) :
  Calls Tryd.prog 57 #[.agg #[.string a0_0,.slice A0_1 l0_1.length c0_1,.slice A0_2 l0_2.length c0_2,.slice A0_3 l0_3.length c0_3],.slice A1 l1.length c1] w fun e w'=>e = .returned (.bool r) ∧ Below w.heap.size w w':=by
 have hu35:=Tryd.underlying35
 have hu85:=Tryd.underlying85
 have HR0_1:=aM_ hr0_1
 have HC0_1:=aM_ hc0_1
 clear hr0_1 hc0_1
 have HR0_2:=aM_ hr0_2
 have HC0_2:=aM_ hc0_2
 clear hr0_2 hc0_2
 have HR0_3:=aM_ hr0_3
 have HC0_3:=aM_ hc0_3
 clear hr0_3 hc0_3
 have HR1:=aM_ hr1
 have HC1:=aM_ hc1
 clear hr1 hc1
 have HB:=aM_ (Below.refl w.heap.size w)
 have H : (impl_partsOk.l0 k l1 l1 (l1.length : Int) 0 a0_0 l0_1 l0_2 l0_3) = some r:=h
 clear h
 have H':=aM_ H
 clear H
 go_enter Tryd.func57,Tryd.ntmps57
 go_wp2_with (first | ((with_reducible refine gate_dst (N:=2) rfl ?_);refine box_event ?hg (N:=2) ?hd (cs:=#[.string a0_0,.slice A0_1 l0_1.length c0_1,.slice A0_2 l0_2.length c0_2,.slice A0_3 l0_3.length c0_3]) (t:=35) ?hr ?_;(case hd=>rfl);(case hg=>rfl);(case hr=>first | (go_simp;done) | (go_simp;rfl));intro gb134 hg w3 hbox hb;have n0_:=aM_ (bT_ (by exact bZ_ HB) hb);have n1_:=aM_ (hbox);have n2_:=aM_ ((by rw [hg];exact (bS_ (by exact bZ_ HB)) : w.heap.size ≤ gb134));have n3_:=aM_ ((by rw [hg];exact (bS_ (by exact bZ_ HB)) : w.heap.size ≤ gb134));clear HB;have HB:=n0_;have BK134:=n1_;have GW134:=n2_;have GE134:=n3_;clear n0_ n1_ n2_ n3_;clear hb hbox hg))
 (try simp only [Act.put,sI_,sS_,sZ_])
 go_loopg [11] k (fun kq v11 w'=>∃ (x11_1 : Int),v11 = .int .i64 x11_1 ∧ Aside0 (impl_partsOk.l0 kq l1 l1 (l1.length : Int) x11_1 a0_0 l0_1 l0_2 l0_3 = some r) ∧ Aside0 (kq ≤ k) ∧ Aside0 (w'.heap[gb134]? = some (.cells #[.string a0_0,(.slice A0_1 l0_1.length c0_1),(.slice A0_2 l0_2.length c0_2),(.slice A0_3 l0_3.length c0_3)] 35 (0,0))) ∧ Aside0 (Below w.heap.size w w'))
 case atStart=>exact ⟨(0),(by first | rfl | (simp;done) | (simp [*];done)),H', ⟨Nat.le_refl _⟩,⟨by exact kZ_ BK134⟩,⟨by exact bZ_ HB⟩⟩
 case round =>
  clear H'
  try clear c1
  try clear p2
  obtain ⟨x11_1,rfl,HA,HK1,BK134,HB⟩:=hrel
  cases gk with
  | zero=>exact absurd HA.out (by simp [impl_partsOk.l0])
  | succ k1 =>
   have H:=HA.out
   clear HA
   simp only [impl_partsOk.l0] at H
   by_cases c4 : x11_1 < (l1.length : Int)
   ·rw [if_pos c4] at H
    have c4b0 : decide (x11_1 < (l1.length : Int)) = true:=decide_eq_true c4
    clear c4
    by_cases c5 : 0 ≤ x11_1
    ·rw [if_pos c5] at H
     have c5b0 : decide (0 ≤ x11_1) = true:=decide_eq_true c5
     clear c5
     by_cases c6 : x11_1 < (l1.length : Int)
     ·rw [if_pos c6] at H
      have c6b0 : decide (x11_1 < (l1.length : Int)) = true:=decide_eq_true c6
      clear c6
      replace H:=oB_ H
      obtain ⟨t138,A70,H⟩:=H
      replace H : (if t138 = true then (if x11_1 ≤ (l1.length : Int) then ((some (l1.take (x11_1 : Int).toNat : List (S85))).bind fun y139=>(impl_partsOk.l1 k1 l1 l1 (l1.length : Int) x11_1 y139 (y139.length : Int) 0 a0_0 l0_1 l0_2 l0_3 ((rd_T85 l1 x11_1).f0) ((rd_T85 l1 x11_1).f1))) else (none)) else (some false)) = some r:=H
      have A7:=aM_ A70
      clear A70
      by_cases c8 : t138 = true
      ·subst c8
       have H1 : (if x11_1 ≤ (l1.length : Int) then ((some (l1.take (x11_1 : Int).toNat : List (S85))).bind fun y139=>(impl_partsOk.l1 k1 l1 l1 (l1.length : Int) x11_1 y139 (y139.length : Int) 0 a0_0 l0_1 l0_2 l0_3 ((rd_T85 l1 x11_1).f0) ((rd_T85 l1 x11_1).f1))) else (none)) = some r:=by rw [if_pos rfl] at H;exact H
       clear H
       have H:=H1
       clear H1
       have c9b0:=eq_true (oT_ (by first | (with_reducible assumption) | assumption) : 0 ≤ x11_1)
       by_cases c10 : x11_1 ≤ (l1.length : Int)
       ·rw [if_pos c10] at H
        have c10b0:=eq_true c10
        have c10b1 : decide (x11_1 ≤ (l1.length : Int)) = true:=decide_eq_true c10
        clear c10
        obtain ⟨y139,hy139⟩ : ∃ y_ : List (S85),y_ = (l1.take (x11_1 : Int).toNat):=⟨_,rfl⟩
        replace H : (impl_partsOk.l1 k1 l1 l1 (l1.length : Int) x11_1 y139 (y139.length : Int) 0 a0_0 l0_1 l0_2 l0_3 ((rd_T85 l1 x11_1).f0) ((rd_T85 l1 x11_1).f1)) = some r:=by first | (rw [hy139];with_reducible exact H) | (have H2_:=(Option.bind_some _ _).symm.trans H;rw [hy139];with_reducible exact H2_) | (have H2_:=(Option.bind_some _ _).symm.trans H;with_reducible exact H2_) | with_reducible exact H | (rw [hy139];exact H) | exact H
        have Ny139:=aM_ hy139
        clear hy139
        have H':=aM_ H
        clear H
        have p136 : 0 ≤ (x11_1 : Int):=oT_ (by first | (with_reducible assumption) | assumption)
        have q136 : x11_1 < (l1.length : Int):=oT_ (by first | (with_reducible assumption) | assumption)
        obtain ⟨ad136,e136,hx136_0,hx136_1⟩:=at_T85 HR1.out x11_1 p136 q136
        cases e136
        replace hx136_0:=(HB.out.cell (wL_ w _ hx136_0)).trans hx136_0
        replace hx136_1:=(HB.out.cell (wL_ w _ hx136_1)).trans hx136_1
        replace p136:=eq_true p136
        replace q136:=eq_true q136
        go_wp2_with (first | ((with_reducible refine gate_dst (N:=6) rfl ?_);refine box_event ?hg (N:=6) ?hd (cs:=#[.int .i64 0,.bool false]) (t:=85) ?hr ?_;(case hd=>rfl);(case hg=>rfl);(case hr=>first | (go_simp;done) | (go_simp;rfl));intro gb137 hg w11 hbox hb;have n0_:=aM_ (blk_below (g:=gb134) (o:=.cells #[.string a0_0,.slice A0_1 l0_1.length c0_1,.slice A0_2 l0_2.length c0_2,.slice A0_3 l0_3.length c0_3] 35 (0,0)) (by exact kZ_ BK134) hb);have n1_:=aM_ (bT_ (by exact bZ_ HB) hb);have n2_:=aM_ (hbox);have n3_:=aM_ ((by rw [hg];exact (bS_ (by exact bZ_ HB)) : w.heap.size ≤ gb137));have n4_:=aM_ ((by rw [hg];exact (bS_ (by exact bZ_ HB)) : w.heap.size ≤ gb137));have n5_:=aM_ ((by rw [hg];exact nN_ (blk_lt (g:=gb134) (o:=.cells #[.string a0_0,.slice A0_1 l0_1.length c0_1,.slice A0_2 l0_2.length c0_2,.slice A0_3 l0_3.length c0_3] 35 (0,0)) (by exact kZ_ BK134)) : gb134 ≠ gb137));have n6_:=aM_ ((by rw [hg];exact Nat.ne_of_gt (blk_lt (g:=gb134) (o:=.cells #[.string a0_0,.slice A0_1 l0_1.length c0_1,.slice A0_2 l0_2.length c0_2,.slice A0_3 l0_3.length c0_3] 35 (0,0)) (by exact kZ_ BK134)) : gb137 ≠ gb134));clear BK134;clear HB;have BK134:=n0_;have HB:=n1_;have BK137:=n2_;have GW137:=n3_;have GE137:=n4_;have NB134_137:=n5_;have NB137_134:=n6_;clear n0_ n1_ n2_ n3_ n4_ n5_ n6_;clear hb hbox hg;have hnb12:=NB137_134.out;have hnc12:=NB134_137.out;have hcz13_0 : w11.cell? ⟨gb137,0,none⟩ = some (.int .i64 0):=(kC_ BK137.out 0).trans rfl;have hcz13_1 : w11.cell? ⟨gb137,1,none⟩ = some (.bool false):=(kC_ BK137.out 1).trans rfl;have hfz13_0:=kF_ BK137.out 0;have hfz13_1:=kF_ BK137.out 1) | ((with_reducible refine gate_store (t:=85) (p:=6) rfl ?_);refine store_event (t:=85) (p:=6) (v:=?vo_w14) (w1:=((w11.setCell ⟨gb137,0,none⟩ (.int .i64 ((rd_T85 l1 x11_1).f0))).setCell ⟨gb137,1,none⟩ (.bool ((rd_T85 l1 x11_1).f1)))) ?hg ?ho ?hn ?hr ?_;(case ho=>rfl);(case hg=>rfl);(case hn=>rfl);(case hr=>first | (go_simp;done) | (go_simp;rfl));intro w14 hw;have n0_ : Aside0 (w14.heap[gb134]? = some (.cells #[.string a0_0,.slice A0_1 l0_1.length c0_1,.slice A0_2 l0_2.length c0_2,.slice A0_3 l0_3.length c0_3] 35 (0,0))):=⟨(by rw [hw];exact (by exact kW_ BK134))⟩;have n1_ : Aside0 (w14.heap[gb137]? = some (.cells #[.int .i64 ((rd_T85 l1 x11_1).f0),.bool ((rd_T85 l1 x11_1).f1)] 85 (0,0))):=⟨(by rw [hw];exact (by (with_reducible repeat (first | refine kN_ ?_ _ | refine kD_ ?_ | refine kA_ ?_ _));refine kP_ (cs:=#[.int .i64 ((rd_T85 l1 x11_1).f0),.bool false]) ?_ 1 _ rfl;(with_reducible repeat (first | refine kN_ ?_ _ | refine kD_ ?_ | refine kA_ ?_ _));refine kP_ (cs:=#[.int .i64 0,.bool false]) ?_ 0 _ rfl;exact kZ_ BK137))⟩;have n2_ : Aside0 (Below w.heap.size w w14):=⟨(by rw [hw];exact (by exact bZ_ HB))⟩;clear hw;clear BK134;clear BK137;clear HB;have BK134:=n0_;have BK137:=n1_;have HB:=n2_;clear n0_ n1_ n2_;have hcz15_0 : w14.cell? ⟨gb137,0,none⟩ = some (.int .i64 ((rd_T85 l1 x11_1).f0)):=(kC_ BK137.out 0).trans rfl;have hcz15_1 : w14.cell? ⟨gb137,1,none⟩ = some (.bool ((rd_T85 l1 x11_1).f1)):=(kC_ BK137.out 1).trans rfl;have hfz15_0:=kF_ BK137.out 0;have hfz15_1:=kF_ BK137.out 1;have hcz16_0 : w14.cell? ⟨gb134,0,none⟩ = some (.string a0_0):=(kC_ BK134.out 0).trans rfl;have hcz16_1 : w14.cell? ⟨gb134,1,none⟩ = some (.slice A0_1 l0_1.length c0_1):=(kC_ BK134.out 1).trans rfl;have hcz16_2 : w14.cell? ⟨gb134,2,none⟩ = some (.slice A0_2 l0_2.length c0_2):=(kC_ BK134.out 2).trans rfl;have hcz16_3 : w14.cell? ⟨gb134,3,none⟩ = some (.slice A0_3 l0_3.length c0_3):=(kC_ BK134.out 3).trans rfl;have hfz16_0:=kF_ BK134.out 0;have hfz16_1:=kF_ BK134.out 1;have hfz16_2:=kF_ BK134.out 2;have hfz16_3:=kF_ BK134.out 3) | ((with_reducible refine gate_callee (f:=55) rfl ?_);refine goesL_ (some 22) rfl rfl Tryd.func55 (by kernel_rfl) rfl #[.int .i64 ((rd_T85 l1 x11_1).f0),.int .i64 0,.int .i64 (wrap64 ((l0_1.length : Int) - 1))] rfl (by (try simp only [mA_,mC_,mN_]);first | done | rfl | (simp only [lD_,lT_];rfl)) ?_;(with_reducible refine (impl_in.calls ((rd_T85 l1 x11_1).f0) 0 (wrap64 ((l0_1.length : Int) - 1)) true _ A7.out).mono ?_);rintro e w' ⟨rfl,⟨nd,rfl⟩⟩;refine ⟨_,rfl,?_⟩;have q17 : (x11_1 : Int) ≤ ((l1.length : Int) : Int):=oT_ (by first | (with_reducible assumption) | assumption);obtain ⟨i017,hi017,_,hsz17,_⟩:=info_parts info85;have hroom17 : l1.length ≤ c1:=HC1.out;have hC17 : Kd.C k85 _ (some ad136) l1.length l1:=HR1.out;have hcut17:=cut_to (P:=Tryd.prog) 32 85 .i64 Tryd.underlying32 hi017 (some ad136) l1.length c1 x11_1 (oT_ (by first | (with_reducible assumption) | assumption)) q17 hroom17;have hr17:=Kd.C_take (m:=(x11_1 : Int).toNat) hC17 (by omega);have hy17 : y139.length = (x11_1 : Int).toNat:=(by rw [Ny139.out,lT_];omega);rw [← Ny139.out] at hr17;rw [← hy17] at hcut17;have HR142:=aM_ hr17;have HC142:=aM_ (show y139.length ≤ c1 from by omega);clear hr17 hC17 hroom17 hi017 hsz17;have KY17:=aM_ hy17;clear hy17;replace q17:=eq_true q17))
        (try simp only [Act.put,sI_,sS_,sZ_])
        go_loopg [28] k1 (fun kq v28 w'=>∃ (x28_2 : Int),v28 = .int .i64 x28_2 ∧ Aside0 (impl_partsOk.l1 kq l1 l1 (l1.length : Int) x11_1 y139 (y139.length : Int) x28_2 a0_0 l0_1 l0_2 l0_3 ((rd_T85 l1 x11_1).f0) ((rd_T85 l1 x11_1).f1) = some r) ∧ Aside0 (kq ≤ k1) ∧ Aside0 (w'.heap[gb134]? = some (.cells #[.string a0_0,(.slice A0_1 l0_1.length c0_1),(.slice A0_2 l0_2.length c0_2),(.slice A0_3 l0_3.length c0_3)] 35 (0,0))) ∧ Aside0 (w'.heap[gb137]? = some (.cells #[.int .i64 ((rd_T85 l1 x11_1).f0),.bool ((rd_T85 l1 x11_1).f1)] 85 (0,0))) ∧ Aside0 (Below w.heap.size w w'))
        case atStart=>exact ⟨(0),(by first | rfl | (simp;done) | (simp [*];done)),H', ⟨Nat.le_refl _⟩,⟨by exact kZ_ BK134⟩,⟨by exact kZ_ BK137⟩,⟨by exact bZ_ HB⟩⟩
        case round =>
         clear H'
         try clear c1
         try clear p1
         try clear q1
         try clear hx1
         try clear p2
         try clear c4
         try clear c4b0
         try clear c5
         try clear c5b0
         try clear c6
         try clear c6b0
         try clear p6
         try clear c8
         try clear c9
         try clear c9b0
         try clear c10
         try clear c10b0
         try clear c10b1
         try clear c12
         try clear p13
         try clear q13
         try clear hx13
         try clear q17
         try clear hcz13_0
         try clear hcz13_1
         try clear hcz15_0
         try clear hcz15_1
         try clear hcz16_0
         try clear hcz16_1
         try clear hcz16_2
         try clear hcz16_3
         try clear hfz13_0
         try clear hfz13_1
         try clear hfz15_0
         try clear hfz15_1
         try clear hfz16_0
         try clear hfz16_1
         try clear hfz16_2
         try clear hfz16_3
         try clear hx136_0
         try clear hx136_1
         try clear p136
         try clear p2
         try clear q136
         try clear q17
         obtain ⟨x28_2,rfl,HA,HK2,BK134,BK137,HB⟩:=hrel
         cases gk with
         | zero=>exact absurd HA.out (by simp [impl_partsOk.l1])
         | succ k2 =>
          have H:=HA.out
          clear HA
          simp only [impl_partsOk.l1] at H
          by_cases c18 : x28_2 < (y139.length : Int)
          ·rw [if_pos c18] at H
           have c18b0 : decide (x28_2 < (y139.length : Int)) = true:=decide_eq_true c18
           clear c18
           by_cases c19 : 0 ≤ x28_2
           ·rw [if_pos c19] at H
            have c19b0 : decide (0 ≤ x28_2) = true:=decide_eq_true c19
            clear c19
            by_cases c20 : x28_2 < (y139.length : Int)
            ·rw [if_pos c20] at H
             have c20b0 : decide (x28_2 < (y139.length : Int)) = true:=decide_eq_true c20
             clear c20
             by_cases c21 : ((rd_T85 y139 x28_2).f0) = ((rd_T85 l1 x11_1).f0)
             ·rw [if_pos c21] at H
              have c21b0 : (((rd_T85 y139 x28_2).f0) == ((rd_T85 l1 x11_1).f0)) = true:=beq_iff_eq.mpr c21
              have c21b1 : (((rd_T85 y139 x28_2).f0) != ((rd_T85 l1 x11_1).f0)) = false:=bne_eq_false_iff_eq.mpr c21
              clear c21
              obtain rfl:=Option.some.inj H
              have p143 : 0 ≤ (x28_2 : Int):=oT_ (by first | (with_reducible assumption) | assumption)
              have q143 : x28_2 < (y139.length : Int):=oT_ (by first | (with_reducible assumption) | assumption)
              obtain ⟨ad143,e143,hx143_0,hx143_1⟩:=at_T85 HR142.out x28_2 p143 q143
              obtain rfl : ad136 = ad143:=(by injection e143)
              replace hx143_0:=(HB.out.cell (wL_ w _ hx143_0)).trans hx143_0
              replace hx143_1:=(HB.out.cell (wL_ w _ hx143_1)).trans hx143_1
              replace p143:=eq_true p143
              replace q143:=eq_true q143
              go_wp2_with (first | ((with_reducible refine gate_dst (N:=8) rfl ?_);refine box_event ?hg (N:=8) ?hd (cs:=#[.int .i64 0,.bool false]) (t:=85) ?hr ?_;(case hd=>rfl);(case hg=>rfl);(case hr=>first | (go_simp;done) | (go_simp;rfl));intro gb144 hg w22 hbox hb;have n0_:=aM_ (blk_below (g:=gb134) (o:=.cells #[.string a0_0,.slice A0_1 l0_1.length c0_1,.slice A0_2 l0_2.length c0_2,.slice A0_3 l0_3.length c0_3] 35 (0,0)) (by exact kZ_ BK134) hb);have n1_:=aM_ (blk_below (g:=gb137) (o:=.cells #[.int .i64 ((rd_T85 l1 x11_1).f0),.bool ((rd_T85 l1 x11_1).f1)] 85 (0,0)) (by exact kZ_ BK137) hb);have n2_:=aM_ (bT_ (by exact bZ_ HB) hb);have n3_:=aM_ (hbox);have n4_:=aM_ ((by rw [hg];exact (bS_ (by exact bZ_ HB)) : w.heap.size ≤ gb144));have n5_:=aM_ ((by rw [hg];exact (bS_ (by exact bZ_ HB)) : w.heap.size ≤ gb144));have n6_:=aM_ ((by rw [hg];exact nN_ (blk_lt (g:=gb134) (o:=.cells #[.string a0_0,.slice A0_1 l0_1.length c0_1,.slice A0_2 l0_2.length c0_2,.slice A0_3 l0_3.length c0_3] 35 (0,0)) (by exact kZ_ BK134)) : gb134 ≠ gb144));have n7_:=aM_ ((by rw [hg];exact Nat.ne_of_gt (blk_lt (g:=gb134) (o:=.cells #[.string a0_0,.slice A0_1 l0_1.length c0_1,.slice A0_2 l0_2.length c0_2,.slice A0_3 l0_3.length c0_3] 35 (0,0)) (by exact kZ_ BK134)) : gb144 ≠ gb134));have n8_:=aM_ ((by rw [hg];exact nN_ (blk_lt (g:=gb137) (o:=.cells #[.int .i64 ((rd_T85 l1 x11_1).f0),.bool ((rd_T85 l1 x11_1).f1)] 85 (0,0)) (by exact kZ_ BK137)) : gb137 ≠ gb144));have n9_:=aM_ ((by rw [hg];exact Nat.ne_of_gt (blk_lt (g:=gb137) (o:=.cells #[.int .i64 ((rd_T85 l1 x11_1).f0),.bool ((rd_T85 l1 x11_1).f1)] 85 (0,0)) (by exact kZ_ BK137)) : gb144 ≠ gb137));clear BK134;clear BK137;clear HB;have BK134:=n0_;have BK137:=n1_;have HB:=n2_;have BK144:=n3_;have GW144:=n4_;have GE144:=n5_;have NB134_144:=n6_;have NB144_134:=n7_;have NB137_144:=n8_;have NB144_137:=n9_;clear n0_ n1_ n2_ n3_ n4_ n5_ n6_ n7_ n8_ n9_;clear hb hbox hg;have hnb23:=NB144_134.out;have hnc23:=NB134_144.out;have hnb24:=NB144_137.out;have hnc24:=NB137_144.out;have hcz25_0 : w22.cell? ⟨gb144,0,none⟩ = some (.int .i64 0):=(kC_ BK144.out 0).trans rfl;have hcz25_1 : w22.cell? ⟨gb144,1,none⟩ = some (.bool false):=(kC_ BK144.out 1).trans rfl;have hfz25_0:=kF_ BK144.out 0;have hfz25_1:=kF_ BK144.out 1;have hnb26:=NB137_134.out;have hnc26:=NB134_137.out;have hcz27_0 : w22.cell? ⟨gb137,0,none⟩ = some (.int .i64 ((rd_T85 l1 x11_1).f0)):=(kC_ BK137.out 0).trans rfl;have hcz27_1 : w22.cell? ⟨gb137,1,none⟩ = some (.bool ((rd_T85 l1 x11_1).f1)):=(kC_ BK137.out 1).trans rfl;have hfz27_0:=kF_ BK137.out 0;have hfz27_1:=kF_ BK137.out 1))
              go_ret
              exact ⟨by first | rfl | (simp [errW_none,errW_some] <;> rfl) | (simp [*, errW_none,errW_some] <;> rfl),by exact bZ_ HB⟩
             ·rw [if_neg c21] at H
              have c21b0 : (((rd_T85 y139 x28_2).f0) == ((rd_T85 l1 x11_1).f0)) = false:=beq_eq_false_iff_ne.mpr c21
              have c21b1 : (((rd_T85 y139 x28_2).f0) != ((rd_T85 l1 x11_1).f0)) = true:=bne_iff_ne.mpr c21
              have H':=aM_ H
              clear H
              have p143 : 0 ≤ (x28_2 : Int):=oT_ (by first | (with_reducible assumption) | assumption)
              have q143 : x28_2 < (y139.length : Int):=oT_ (by first | (with_reducible assumption) | assumption)
              obtain ⟨ad143,e143,hx143_0,hx143_1⟩:=at_T85 HR142.out x28_2 p143 q143
              obtain rfl : ad136 = ad143:=(by injection e143)
              replace hx143_0:=(HB.out.cell (wL_ w _ hx143_0)).trans hx143_0
              replace hx143_1:=(HB.out.cell (wL_ w _ hx143_1)).trans hx143_1
              replace p143:=eq_true p143
              replace q143:=eq_true q143
              go_wp2_with (first | ((with_reducible refine gate_dst (N:=8) rfl ?_);refine box_event ?hg (N:=8) ?hd (cs:=#[.int .i64 0,.bool false]) (t:=85) ?hr ?_;(case hd=>rfl);(case hg=>rfl);(case hr=>first | (go_simp;done) | (go_simp;rfl));intro gb144 hg w28 hbox hb;have n0_:=aM_ (blk_below (g:=gb134) (o:=.cells #[.string a0_0,.slice A0_1 l0_1.length c0_1,.slice A0_2 l0_2.length c0_2,.slice A0_3 l0_3.length c0_3] 35 (0,0)) (by exact kZ_ BK134) hb);have n1_:=aM_ (blk_below (g:=gb137) (o:=.cells #[.int .i64 ((rd_T85 l1 x11_1).f0),.bool ((rd_T85 l1 x11_1).f1)] 85 (0,0)) (by exact kZ_ BK137) hb);have n2_:=aM_ (bT_ (by exact bZ_ HB) hb);have n3_:=aM_ (hbox);have n4_:=aM_ ((by rw [hg];exact (bS_ (by exact bZ_ HB)) : w.heap.size ≤ gb144));have n5_:=aM_ ((by rw [hg];exact (bS_ (by exact bZ_ HB)) : w.heap.size ≤ gb144));have n6_:=aM_ ((by rw [hg];exact nN_ (blk_lt (g:=gb134) (o:=.cells #[.string a0_0,.slice A0_1 l0_1.length c0_1,.slice A0_2 l0_2.length c0_2,.slice A0_3 l0_3.length c0_3] 35 (0,0)) (by exact kZ_ BK134)) : gb134 ≠ gb144));have n7_:=aM_ ((by rw [hg];exact Nat.ne_of_gt (blk_lt (g:=gb134) (o:=.cells #[.string a0_0,.slice A0_1 l0_1.length c0_1,.slice A0_2 l0_2.length c0_2,.slice A0_3 l0_3.length c0_3] 35 (0,0)) (by exact kZ_ BK134)) : gb144 ≠ gb134));have n8_:=aM_ ((by rw [hg];exact nN_ (blk_lt (g:=gb137) (o:=.cells #[.int .i64 ((rd_T85 l1 x11_1).f0),.bool ((rd_T85 l1 x11_1).f1)] 85 (0,0)) (by exact kZ_ BK137)) : gb137 ≠ gb144));have n9_:=aM_ ((by rw [hg];exact Nat.ne_of_gt (blk_lt (g:=gb137) (o:=.cells #[.int .i64 ((rd_T85 l1 x11_1).f0),.bool ((rd_T85 l1 x11_1).f1)] 85 (0,0)) (by exact kZ_ BK137)) : gb144 ≠ gb137));clear BK134;clear BK137;clear HB;have BK134:=n0_;have BK137:=n1_;have HB:=n2_;have BK144:=n3_;have GW144:=n4_;have GE144:=n5_;have NB134_144:=n6_;have NB144_134:=n7_;have NB137_144:=n8_;have NB144_137:=n9_;clear n0_ n1_ n2_ n3_ n4_ n5_ n6_ n7_ n8_ n9_;clear hb hbox hg;have hnb29:=NB144_134.out;have hnc29:=NB134_144.out;have hnb30:=NB144_137.out;have hnc30:=NB137_144.out;have hcz31_0 : w28.cell? ⟨gb144,0,none⟩ = some (.int .i64 0):=(kC_ BK144.out 0).trans rfl;have hcz31_1 : w28.cell? ⟨gb144,1,none⟩ = some (.bool false):=(kC_ BK144.out 1).trans rfl;have hfz31_0:=kF_ BK144.out 0;have hfz31_1:=kF_ BK144.out 1;have hnb32:=NB137_134.out;have hnc32:=NB134_137.out;have hcz33_0 : w28.cell? ⟨gb137,0,none⟩ = some (.int .i64 ((rd_T85 l1 x11_1).f0)):=(kC_ BK137.out 0).trans rfl;have hcz33_1 : w28.cell? ⟨gb137,1,none⟩ = some (.bool ((rd_T85 l1 x11_1).f1)):=(kC_ BK137.out 1).trans rfl;have hfz33_0:=kF_ BK137.out 0;have hfz33_1:=kF_ BK137.out 1))
              go_roundg k2
              case measure=>have:=HK1.out;have:=HK2.out;omega
              case rel=>exact ⟨(wrap64 (x28_2 + 1)),(by first | rfl | (simp;done) | (simp [*];done)),H', ⟨by have:=HK1.out;have:=HK2.out;omega⟩,⟨by exact kW_ BK134⟩,⟨by exact kW_ BK137⟩,⟨by exact bZ_ HB⟩⟩
            ·rw [if_neg c20] at H
             exact absurd H (by simp)
           ·rw [if_neg c19] at H
            exact absurd H (by simp)
          ·rw [if_neg c18] at H
           have c18b0 : decide (x28_2 < (y139.length : Int)) = false:=decide_eq_false c18
           clear c18
           have H':=aM_ H
           clear H
           go_wp2
           go_roundg k2
           case measure=>have:=HK1.out;have:=HK2.out;omega
           case rel=>exact ⟨(wrap64 (x11_1 + 1)),(by first | rfl | (simp;done) | (simp [*];done)),H', ⟨by have:=HK1.out;have:=HK2.out;omega⟩,⟨by exact kZ_ BK134⟩,⟨by exact bZ_ HB⟩⟩
       ·rw [if_neg c10] at H
        exact absurd H (by simp)
      ·replace c8:=Bool.eq_false_iff.mpr c8
       subst c8
       have H1 : (some false) = some r:=by rw [if_neg (show ¬ (false = true) by decide)] at H;exact H
       clear H
       have H:=H1
       clear H1
       obtain rfl:=Option.some.inj H
       have p136 : 0 ≤ (x11_1 : Int):=oT_ (by first | (with_reducible assumption) | assumption)
       have q136 : x11_1 < (l1.length : Int):=oT_ (by first | (with_reducible assumption) | assumption)
       obtain ⟨ad136,e136,hx136_0,hx136_1⟩:=at_T85 HR1.out x11_1 p136 q136
       cases e136
       replace hx136_0:=(HB.out.cell (wL_ w _ hx136_0)).trans hx136_0
       replace hx136_1:=(HB.out.cell (wL_ w _ hx136_1)).trans hx136_1
       replace p136:=eq_true p136
       replace q136:=eq_true q136
       go_wp2_with (first | ((with_reducible refine gate_dst (N:=6) rfl ?_);refine box_event ?hg (N:=6) ?hd (cs:=#[.int .i64 0,.bool false]) (t:=85) ?hr ?_;(case hd=>rfl);(case hg=>rfl);(case hr=>first | (go_simp;done) | (go_simp;rfl));intro gb137 hg w34 hbox hb;have n0_:=aM_ (blk_below (g:=gb134) (o:=.cells #[.string a0_0,.slice A0_1 l0_1.length c0_1,.slice A0_2 l0_2.length c0_2,.slice A0_3 l0_3.length c0_3] 35 (0,0)) (by exact kZ_ BK134) hb);have n1_:=aM_ (bT_ (by exact bZ_ HB) hb);have n2_:=aM_ (hbox);have n3_:=aM_ ((by rw [hg];exact (bS_ (by exact bZ_ HB)) : w.heap.size ≤ gb137));have n4_:=aM_ ((by rw [hg];exact (bS_ (by exact bZ_ HB)) : w.heap.size ≤ gb137));have n5_:=aM_ ((by rw [hg];exact nN_ (blk_lt (g:=gb134) (o:=.cells #[.string a0_0,.slice A0_1 l0_1.length c0_1,.slice A0_2 l0_2.length c0_2,.slice A0_3 l0_3.length c0_3] 35 (0,0)) (by exact kZ_ BK134)) : gb134 ≠ gb137));have n6_:=aM_ ((by rw [hg];exact Nat.ne_of_gt (blk_lt (g:=gb134) (o:=.cells #[.string a0_0,.slice A0_1 l0_1.length c0_1,.slice A0_2 l0_2.length c0_2,.slice A0_3 l0_3.length c0_3] 35 (0,0)) (by exact kZ_ BK134)) : gb137 ≠ gb134));clear BK134;clear HB;have BK134:=n0_;have HB:=n1_;have BK137:=n2_;have GW137:=n3_;have GE137:=n4_;have NB134_137:=n5_;have NB137_134:=n6_;clear n0_ n1_ n2_ n3_ n4_ n5_ n6_;clear hb hbox hg;have hnb35:=NB137_134.out;have hnc35:=NB134_137.out;have hcz36_0 : w34.cell? ⟨gb137,0,none⟩ = some (.int .i64 0):=(kC_ BK137.out 0).trans rfl;have hcz36_1 : w34.cell? ⟨gb137,1,none⟩ = some (.bool false):=(kC_ BK137.out 1).trans rfl;have hfz36_0:=kF_ BK137.out 0;have hfz36_1:=kF_ BK137.out 1;have hcz37_0 : w34.cell? ⟨gb134,0,none⟩ = some (.string a0_0):=(kC_ BK134.out 0).trans rfl;have hcz37_1 : w34.cell? ⟨gb134,1,none⟩ = some (.slice A0_1 l0_1.length c0_1):=(kC_ BK134.out 1).trans rfl;have hcz37_2 : w34.cell? ⟨gb134,2,none⟩ = some (.slice A0_2 l0_2.length c0_2):=(kC_ BK134.out 2).trans rfl;have hcz37_3 : w34.cell? ⟨gb134,3,none⟩ = some (.slice A0_3 l0_3.length c0_3):=(kC_ BK134.out 3).trans rfl;have hfz37_0:=kF_ BK134.out 0;have hfz37_1:=kF_ BK134.out 1;have hfz37_2:=kF_ BK134.out 2;have hfz37_3:=kF_ BK134.out 3) | ((with_reducible refine gate_callee (f:=55) rfl ?_);refine goesL_ (some 22) rfl rfl Tryd.func55 (by kernel_rfl) rfl #[.int .i64 ((rd_T85 l1 x11_1).f0),.int .i64 0,.int .i64 (wrap64 ((l0_1.length : Int) - 1))] rfl (by (try simp only [mA_,mC_,mN_]);first | done | rfl | (simp only [lD_,lT_];rfl)) ?_;(with_reducible refine (impl_in.calls ((rd_T85 l1 x11_1).f0) 0 (wrap64 ((l0_1.length : Int) - 1)) false _ A7.out).mono ?_);rintro e w' ⟨rfl,⟨nd,rfl⟩⟩;refine ⟨_,rfl,?_⟩))
       go_ret
       exact ⟨by first | rfl | (simp [errW_none,errW_some] <;> rfl) | (simp [*, errW_none,errW_some] <;> rfl),by exact bZ_ HB⟩
     ·rw [if_neg c6] at H
      exact absurd H (by simp)
    ·rw [if_neg c5] at H
     exact absurd H (by simp)
   ·rw [if_neg c4] at H
    have c4b0 : decide (x11_1 < (l1.length : Int)) = false:=decide_eq_false c4
    clear c4
    replace H:=oB_ H
    obtain ⟨t135,A380,H⟩:=H
    replace H : (some t135) = some r:=H
    have A38:=aM_ A380
    clear A380
    obtain rfl:=Option.some.inj H
    go_wp2_with (first | ((with_reducible refine gate_callee (f:=55) rfl ?_);refine goesL_ (some 41) rfl rfl Tryd.func55 (by kernel_rfl) rfl #[.int .i64 (l1.length : Int),.int .i64 1,.int .i64 2] rfl (by (try simp only [mA_,mC_,mN_]);first | done | rfl | (simp only [lD_,lT_];rfl)) ?_;(with_reducible refine (impl_in.calls (l1.length : Int) 1 2 t135 _ A38.out).mono ?_);rintro e w' ⟨rfl,⟨nd,rfl⟩⟩;refine ⟨_,rfl,?_⟩))
    go_ret
    exact ⟨by first | rfl | (simp [errW_none,errW_some] <;> rfl) | (simp [*, errW_none,errW_some] <;> rfl),by exact bZ_ HB⟩
end Go.Proofs.YtipehkeabnfngaaDoor.PFnExactDefText
