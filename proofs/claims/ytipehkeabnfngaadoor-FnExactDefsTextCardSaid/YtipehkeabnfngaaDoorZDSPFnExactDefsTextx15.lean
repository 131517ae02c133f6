import Derived.Test.YtipehkeabnfngaaDoorZDSPFnExactDefsTextx0
import Derived.Test.YtipehkeabnfngaaDoorZDSPFnExactDefsTextx14
namespace Go.Proofs.YtipehkeabnfngaaDoor.PFnExactDefsText
open Go.RowKit Go.Proofs.YtipehkeabnfngaaDoorW.PrintWords Go.Proofs.YtipehkeabnfngaaDoorW.PrintLast Go.Proofs.YtipehkeabnfngaaDoorW.PrintMore Go.Proofs.YtipehkeabnfngaaDoor.Xtra
attribute [local go_sem] max2_int min2_int max_two min_two max_three min_three max_four min_four str_leq str_gtr str_geq setCell_drewN cell_set2 cell_set3   -- for this text's walks alone
set_option linter.unusedVariables false
set_option linter.unusedSimpArgs false
def impl_partsText.l0 : Nat → List ByteArray → List (S85) → Int → Int → ByteArray → List (S82) → List (S85) → List (S69) → Option (ByteArray)
 | 0,_,_,_,_,_,_,_,_=>none
 | k + 1,x5,x9,x10,x11,x333000,x333001,x333002,x333003=>if x11 < x10 then (if 0 ≤ x11 then (if x11 < (x9.length : Int) then (if 0 ≤ ((rd_T85 x9 x11).f0) then (if ((rd_T85 x9 x11).f0) < (x333001.length : Int) then (if (rd_T85 x9 x11).f1 = true then (if ((rd_T82 x333001 ((rd_T85 x9 x11).f0)).f0).size + 5 ≤ 9223372036854775807 then (if x5.length < 8796093022208 then (impl_partsText.l0 k (x5 ++ [((rd_T82 x333001 ((rd_T85 x9 x11).f0)).f0) ++ (⟨#[32,100,101,115,99]⟩ : ByteArray)]) x9 x10 (wrap64 (x11 + 1)) x333000 x333001 x333002 x333003) else (none)) else (none)) else (if x5.length < 8796093022208 then (impl_partsText.l0 k (x5 ++ [(rd_T82 x333001 ((rd_T85 x9 x11).f0)).f0]) x9 x10 (wrap64 (x11 + 1)) x333000 x333001 x333002 x333003) else (none))) else (none)) else (none)) else (none)) else (none)) else ((strings_Join.f x5 (⟨#[44,32]⟩ : ByteArray)).bind fun t342=>(if t342.size + 2 ≤ 9223372036854775807 then (some (t342 ++ (⟨#[59,32]⟩ : ByteArray))) else (none)))
def impl_partsText.f (k : Nat) (a0_0 : ByteArray) (l0_1 : List (S82)) (l0_2 : List (S85)) (l0_3 : List (S69)) (l1 : List (S85)) : Option (ByteArray):=impl_partsText.l0 k ([] : List ByteArray) l1 (l1.length : Int) 0 a0_0 l0_1 l0_2 l0_3
theorem impl_partsText.mono_l : ∀ k,(∀ y0 y1 y2 y3 y4 y5 y6 y7,LeO (impl_partsText.l0 k y0 y1 y2 y3 y4 y5 y6 y7) (impl_partsText.l0 (k + 1) y0 y1 y2 y3 y4 y5 y6 y7))
 | 0=>fun _ _ _ _ _ _ _ _ r h=>by simp [impl_partsText.l0] at h
 | k + 1=>by
  have ih0:=impl_partsText.mono_l k
  ·intro y0 y1 y2 y3 y4 y5 y6 y7
   unfold impl_partsText.l0
   repeat' first
   | (with_reducible exact ih0 _ _ _ _ _ _ _ _)
   | (with_reducible exact LeO.refl _)
   | (with_reducible exact LeO.none _)
   | (with_reducible refine LeO.ite ?_ ?_)
   | (with_reducible refine LeO.bind ?_ (fun _=>?_))
   | exact ih0 _ _ _ _ _ _ _ _
   | exact LeO.none _
   | refine LeO.ite ?_ ?_
   | refine LeO.bind ?_ (fun _=>?_)
theorem impl_partsText.mono : ∀ a0 a1 a2 a3 a4 k,LeO (impl_partsText.f k a0 a1 a2 a3 a4) (impl_partsText.f (k + 1) a0 a1 a2 a3 a4):=by
 intro a0 a1 a2 a3 a4 k
 have ih0:=impl_partsText.mono_l k
 unfold impl_partsText.f
 repeat' first
   | (with_reducible exact ih0 _ _ _ _ _ _ _ _)
   | (with_reducible exact LeO.refl _)
   | (with_reducible exact LeO.none _)
   | (with_reducible refine LeO.ite ?_ ?_)
   | (with_reducible refine LeO.bind ?_ (fun _=>?_))
   | exact ih0 _ _ _ _ _ _ _ _
   | exact LeO.none _
   | refine LeO.ite ?_ ?_
   | refine LeO.bind ?_ (fun _=>?_)
set_option maxHeartbeats 8000000 in
set_option maxRecDepth 100000 in
theorem impl_partsText.calls (k : Nat) (a0_0 : ByteArray) (A0_1 : Option Addr) (c0_1 : Nat) (l0_1 : List (S82)) (A0_2 : Option Addr) (c0_2 : Nat) (l0_2 : List (S85)) (A0_3 : Option Addr) (c0_3 : Nat) (l0_3 : List (S69)) (A1 : Option Addr) (c1 : Nat) (l1 : List (S85)) (r : ByteArray) (w : World) (hr0_1 : Kd.C k82 w A0_1 l0_1.length l0_1) (hc0_1 : l0_1.length ≤ c0_1) (hr0_2 : Kd.C k85 w A0_2 l0_2.length l0_2) (hc0_2 : l0_2.length ≤ c0_2) (hr0_3 : Kd.C k69 w A0_3 l0_3.length l0_3) (hc0_3 : l0_3.length ≤ c0_3) (hr1 : Kd.C k85 w A1 l1.length l1) (hc1 : l1.length ≤ c1) (h : impl_partsText.f k a0_0 l0_1 l0_2 l0_3 l1 = some r) :
  Calls Tryd.prog 65 #[.agg #[.string a0_0,.slice A0_1 l0_1.length c0_1,.slice A0_2 l0_2.length c0_2,.slice A0_3 l0_3.length c0_3],.slice A1 l1.length c1] w fun e w'=>e = .returned (.string r) ∧ Below w.heap.size w w':=by
 have hu35:=Tryd.underlying35
 have hu85:=Tryd.underlying85
 have HR0_1:=aM_ hr0_1
 have HC0_1:=aM_ hc0_1
 clear hr0_1 hc0_1
 have HR0_2:=aM_ hr0_2
 have HC0_2:=aM_ hc0_2
 clear hr0_2 hc0_2
 have HR0_3:=aM_ hr0_3
 have HC0_3:=aM_ hc0_3
 clear hr0_3 hc0_3
 have HR1:=aM_ hr1
 have HC1:=aM_ hc1
 clear hr1 hc1
 have HB:=aM_ (Below.refl w.heap.size w)
 have H : (impl_partsText.l0 k ([] : List ByteArray) l1 (l1.length : Int) 0 a0_0 l0_1 l0_2 l0_3) = some r:=h
 clear h
 have H':=aM_ H
 clear H
 go_enter Tryd.func65,Tryd.ntmps65
 go_wp2_with (first | ((with_reducible refine gate_dst (N:=2) rfl ?_);refine box_event ?hg (N:=2) ?hd (cs:=#[.string a0_0,.slice A0_1 l0_1.length c0_1,.slice A0_2 l0_2.length c0_2,.slice A0_3 l0_3.length c0_3]) (t:=35) ?hr ?_;(case hd=>rfl);(case hg=>rfl);(case hr=>first | (go_simp;done) | (go_simp;rfl));intro gb332 hg w3 hbox hb;have n0_:=aM_ (bT_ (by exact bZ_ HB) hb);have n1_:=aM_ (hbox);have n2_:=aM_ ((by rw [hg];exact (bS_ (by exact bZ_ HB)) : w.heap.size ≤ gb332));have n3_:=aM_ ((by rw [hg];exact (bS_ (by exact bZ_ HB)) : w.heap.size ≤ gb332));clear HB;have HB:=n0_;have BK332:=n1_;have GW332:=n2_;have GE332:=n3_;clear n0_ n1_ n2_ n3_ hb hbox hg))
 (try simp only [Act.put,sI_,sS_,sZ_])
 go_loopg [5,11] k (fun kq v5 v11 w'=>∃ (x5_1 : List ByteArray) (x11_1 : Int),v11 = .int .i64 x11_1 ∧ Aside0 (impl_partsText.l0 kq x5_1 l1 (l1.length : Int) x11_1 a0_0 l0_1 l0_2 l0_3 = some r) ∧ Aside0 (kq ≤ k) ∧ Aside0 (Kd.R Kd.string 9 w' w.heap.size (fun _=>True) v5 x5_1) ∧ Aside0 (w'.heap[gb332]? = some (.cells #[.string a0_0,(.slice A0_1 l0_1.length c0_1),(.slice A0_2 l0_2.length c0_2),(.slice A0_3 l0_3.length c0_3)] 35 (0,0))) ∧ Aside0 (Below w.heap.size w w'))
 case atStart=>exact ⟨(([] : List ByteArray)),(0),(by first | rfl | (simp;done) | (simp [*];done)),H', ⟨Nat.le_refl _⟩,⟨by first | exact Kd.R_nil _ _ _ _ _ | exact Kd.N_nil _ _ _ _ _ | exact Kd.V_nil _ _ _ _ _ | exact Kd.Q_nil _ _ _ _ _ | exact Kd.S_nil _ _ _ _ _⟩,⟨by exact kZ_ BK332⟩,⟨by exact bZ_ HB⟩⟩
 case round =>
  clear H'
  obtain ⟨x5_1,x11_1,rfl,HA,HK1,HO_5,BK332,HB⟩:=hrel
  cases gk with
  | zero=>exact absurd HA.out (by simp [impl_partsText.l0])
  | succ k1 =>
   have H:=HA.out
   clear HA
   simp only [impl_partsText.l0] at H
   by_cases c4 : x11_1 < (l1.length : Int)
   ·rw [if_pos c4] at H
    have c4b0 : decide (x11_1 < (l1.length : Int)) = true:=decide_eq_true c4
    clear c4
    by_cases c5 : 0 ≤ x11_1
    ·rw [if_pos c5] at H
     have c5b0 : decide (0 ≤ x11_1) = true:=decide_eq_true c5
     clear c5
     by_cases c6 : x11_1 < (l1.length : Int)
     ·rw [if_pos c6] at H
      have c6b0 : decide (x11_1 < (l1.length : Int)) = true:=decide_eq_true c6
      clear c6
      by_cases c7 : 0 ≤ ((rd_T85 l1 x11_1).f0)
      ·rw [if_pos c7] at H
       have c7b0 : decide (0 ≤ ((rd_T85 l1 x11_1).f0)) = true:=decide_eq_true c7
       clear c7
       by_cases c8 : ((rd_T85 l1 x11_1).f0) < (l0_1.length : Int)
       ·rw [if_pos c8] at H
        have c8b0 : decide (((rd_T85 l1 x11_1).f0) < (l0_1.length : Int)) = true:=decide_eq_true c8
        clear c8
        obtain ⟨bq9,hbq9⟩ : ∃ b_ : Bool,b_ = ((rd_T85 l1 x11_1).f1):=⟨_,rfl⟩
        replace H : (if bq9 = true then (if ((rd_T82 l0_1 ((rd_T85 l1 x11_1).f0)).f0).size + 5 ≤ 9223372036854775807 then (if x5_1.length < 8796093022208 then (impl_partsText.l0 k1 (x5_1 ++ [((rd_T82 l0_1 ((rd_T85 l1 x11_1).f0)).f0) ++ (⟨#[32,100,101,115,99]⟩ : ByteArray)]) l1 (l1.length : Int) (wrap64 (x11_1 + 1)) a0_0 l0_1 l0_2 l0_3) else (none)) else (none)) else (if x5_1.length < 8796093022208 then (impl_partsText.l0 k1 (x5_1 ++ [(rd_T82 l0_1 ((rd_T85 l1 x11_1).f0)).f0]) l1 (l1.length : Int) (wrap64 (x11_1 + 1)) a0_0 l0_1 l0_2 l0_3) else (none))) = some r:=by rw [← hbq9] at H;exact H
        have Nbq9:=aM_ hbq9
        clear hbq9
        by_cases c10 : bq9 = true
        ·subst c10
         have H1 : (if ((rd_T82 l0_1 ((rd_T85 l1 x11_1).f0)).f0).size + 5 ≤ 9223372036854775807 then (if x5_1.length < 8796093022208 then (impl_partsText.l0 k1 (x5_1 ++ [((rd_T82 l0_1 ((rd_T85 l1 x11_1).f0)).f0) ++ (⟨#[32,100,101,115,99]⟩ : ByteArray)]) l1 (l1.length : Int) (wrap64 (x11_1 + 1)) a0_0 l0_1 l0_2 l0_3) else (none)) else (none)) = some r:=by rw [if_pos rfl] at H;exact H
         clear H
         have H:=H1
         clear H1
         by_cases c11 : ((rd_T82 l0_1 ((rd_T85 l1 x11_1).f0)).f0).size + 5 ≤ 9223372036854775807
         ·rw [if_pos c11] at H
          have c11b0:=eq_true c11
          have c11b1 : decide (((rd_T82 l0_1 ((rd_T85 l1 x11_1).f0)).f0).size + 5 ≤ 9223372036854775807) = true:=decide_eq_true c11
          try have c11b2 : (9223372036854775807 < ((rd_T82 l0_1 ((rd_T85 l1 x11_1).f0)).f0).size + 5) = False:=eq_false (Nat.not_lt.2 c11)
          by_cases c12 : x5_1.length < 8796093022208
          ·rw [if_pos c12] at H
           have LMc12:=aM_ c12
           clear c12
           obtain ⟨y336,hy336⟩ : ∃ y_ : List ByteArray,y_ = (x5_1 ++ [((rd_T82 l0_1 ((rd_T85 l1 x11_1).f0)).f0) ++ (⟨#[32,100,101,115,99]⟩ : ByteArray)]):=⟨_,rfl⟩
           replace H : (impl_partsText.l0 k1 y336 l1 (l1.length : Int) (wrap64 (x11_1 + 1)) a0_0 l0_1 l0_2 l0_3) = some r:=by first | (rw [hy336];with_reducible exact H) | (have H2_:=(Option.bind_some _ _).symm.trans H;rw [hy336];with_reducible exact H2_) | (have H2_:=(Option.bind_some _ _).symm.trans H;with_reducible exact H2_) | with_reducible exact H | (rw [hy336];exact H) | exact H
           have Ny336:=aM_ hy336
           clear hy336
           have H':=aM_ H
           clear H
           have p333 : 0 ≤ (x11_1 : Int):=oT_ (by first | (with_reducible assumption) | assumption)
           have q333 : x11_1 < (l1.length : Int):=oT_ (by first | (with_reducible assumption) | assumption)
           obtain ⟨ad333,e333,hx333_0,hx333_1⟩:=at_T85 HR1.out x11_1 p333 q333
           (try rw [← Nbq9.out] at hx333_1)
           cases e333
           replace hx333_0:=(HB.out.cell (wL_ w _ hx333_0)).trans hx333_0
           replace hx333_1:=(HB.out.cell (wL_ w _ hx333_1)).trans hx333_1
           replace p333:=eq_true p333
           replace q333:=eq_true q333
           go_wp2_with (first | ((with_reducible refine gate_dst (N:=7) rfl ?_);refine box_event ?hg (N:=7) ?hd (cs:=#[.int .i64 0,.bool false]) (t:=85) ?hr ?_;(case hd=>rfl);(case hg=>rfl);(case hr=>first | (go_simp;done) | (go_simp;rfl));intro gb334 hg w13 hbox hb;have n0_:=aM_ (Kd.R_below (by exact rZ_ HO_5) hb);have n1_:=aM_ (blk_below (g:=gb332) (o:=.cells #[.string a0_0,.slice A0_1 l0_1.length c0_1,.slice A0_2 l0_2.length c0_2,.slice A0_3 l0_3.length c0_3] 35 (0,0)) (by exact kZ_ BK332) hb);have n2_:=aM_ (bT_ (by exact bZ_ HB) hb);have n3_:=aM_ (hbox);have n4_:=aM_ ((by rw [hg];exact (bS_ (by exact bZ_ HB)) : w.heap.size ≤ gb334));have n5_:=aM_ ((by rw [hg];exact (bS_ (by exact bZ_ HB)) : w.heap.size ≤ gb334));have n6_:=aM_ ((by rw [hg];exact nN_ (blk_lt (g:=gb332) (o:=.cells #[.string a0_0,.slice A0_1 l0_1.length c0_1,.slice A0_2 l0_2.length c0_2,.slice A0_3 l0_3.length c0_3] 35 (0,0)) (by exact kZ_ BK332)) : gb332 ≠ gb334));have n7_:=aM_ ((by rw [hg];exact Nat.ne_of_gt (blk_lt (g:=gb332) (o:=.cells #[.string a0_0,.slice A0_1 l0_1.length c0_1,.slice A0_2 l0_2.length c0_2,.slice A0_3 l0_3.length c0_3] 35 (0,0)) (by exact kZ_ BK332)) : gb334 ≠ gb332));clear HO_5 BK332 HB;have HO_5:=n0_;have BK332:=n1_;have HB:=n2_;have BK334:=n3_;have GW334:=n4_;have GE334:=n5_;have NB332_334:=n6_;have NB334_332:=n7_;clear n0_ n1_ n2_ n3_ n4_ n5_ n6_ n7_ hb hbox hg;have hnb14:=NB334_332.out;have hnc14:=NB332_334.out;have hcz15_0 : w13.cell? ⟨gb334,0,none⟩ = some (.int .i64 0):=(kC_ BK334.out 0).trans rfl;have hcz15_1 : w13.cell? ⟨gb334,1,none⟩ = some (.bool false):=(kC_ BK334.out 1).trans rfl;have hfz15_0:=kF_ BK334.out 0;have hfz15_1:=kF_ BK334.out 1;have hcz16_0 : w13.cell? ⟨gb332,0,none⟩ = some (.string a0_0):=(kC_ BK332.out 0).trans rfl;have hcz16_1 : w13.cell? ⟨gb332,1,none⟩ = some (.slice A0_1 l0_1.length c0_1):=(kC_ BK332.out 1).trans rfl;have hcz16_2 : w13.cell? ⟨gb332,2,none⟩ = some (.slice A0_2 l0_2.length c0_2):=(kC_ BK332.out 2).trans rfl;have hcz16_3 : w13.cell? ⟨gb332,3,none⟩ = some (.slice A0_3 l0_3.length c0_3):=(kC_ BK332.out 3).trans rfl;have hfz16_0:=kF_ BK332.out 0;have hfz16_1:=kF_ BK332.out 1;have hfz16_2:=kF_ BK332.out 2;have hfz16_3:=kF_ BK332.out 3;have p335 : 0 ≤ (((rd_T85 l1 x11_1).f0) : Int):=oT_ (by first | (with_reducible assumption) | assumption);have q335 : ((rd_T85 l1 x11_1).f0) < (l0_1.length : Int):=oT_ (by first | (with_reducible assumption) | assumption);obtain ⟨ad335,e335,hx335_0,hx335_1,hx335_2⟩:=at_T82 HR0_1.out ((rd_T85 l1 x11_1).f0) p335 q335;(try rw [← Nbq9.out] at hx335_2);cases e335;have hn335_0 : ad335.block ≠ gb334:=nN_ (nL_ (by have:=wL_ _ _ hx335_0;first | rwa [add_block] at this | exact this) GW334.out);have hn335_1 : ad335.block ≠ gb334:=nN_ (nL_ (by have:=wL_ _ _ hx335_0;first | rwa [add_block] at this | exact this) GW334.out);replace hx335_0:=(HB.out.cell (wL_ w _ hx335_0)).trans hx335_0;replace hx335_1:=(HB.out.cell (wL_ w _ hx335_1)).trans hx335_1;replace hx335_2:=(HB.out.cell (wL_ w _ hx335_2)).trans hx335_2;replace hx335_0:=(cell_far (p:=⟨gb334,0,none⟩) (by first | (rw [add_block];exact hn335_0) | (show (Addr.add _ _).block ≠ _;rw [add_block];exact hn335_0) | exact hn335_0) (.int .i64 ((rd_T85 l1 x11_1).f0))).trans hx335_0;replace hx335_1:=(cell_far (p:=⟨gb334,0,none⟩) (by first | (rw [add_block];exact hn335_0) | (show (Addr.add _ _).block ≠ _;rw [add_block];exact hn335_0) | exact hn335_0) (.int .i64 ((rd_T85 l1 x11_1).f0))).trans hx335_1;replace hx335_2:=(cell_far (p:=⟨gb334,0,none⟩) (by first | (rw [add_block];exact hn335_0) | (show (Addr.add _ _).block ≠ _;rw [add_block];exact hn335_0) | exact hn335_0) (.int .i64 ((rd_T85 l1 x11_1).f0))).trans hx335_2;replace hx335_0:=(cell_far (p:=⟨gb334,1,none⟩) (by first | (rw [add_block];exact hn335_1) | (show (Addr.add _ _).block ≠ _;rw [add_block];exact hn335_1) | exact hn335_1) (.bool true)).trans hx335_0;replace hx335_1:=(cell_far (p:=⟨gb334,1,none⟩) (by first | (rw [add_block];exact hn335_1) | (show (Addr.add _ _).block ≠ _;rw [add_block];exact hn335_1) | exact hn335_1) (.bool true)).trans hx335_1;replace hx335_2:=(cell_far (p:=⟨gb334,1,none⟩) (by first | (rw [add_block];exact hn335_1) | (show (Addr.add _ _).block ≠ _;rw [add_block];exact hn335_1) | exact hn335_1) (.bool true)).trans hx335_2;clear hn335_0 hn335_1;replace p335:=eq_true p335;replace q335:=eq_true q335) | ((with_reducible refine gate_builtin (b:=.append) (xs:=#[.tmp 26,.tmp 28]) rfl ?_);at_builtin;refine Kd.R_append Kd.string (w0:=w) w.heap.size rfl (.tmp 26) (.tmp 28) 88 9 (.string ⟨#[]⟩) 16 rfl Tryd.underlying88 info9 rfl (by decide) (by omega) u5 x5_1 (((rd_T82 l0_1 ((rd_T85 l1 x11_1).f0)).f0) ++ (⟨#[32,100,101,115,99]⟩ : ByteArray)) [.string (((rd_T82 l0_1 ((rd_T85 l1 x11_1).f0)).f0) ++ (⟨#[32,100,101,115,99]⟩ : ByteArray))] (fun _=>True) (fun _=>False) rfl (by first | (go_simp;done) | (go_simp;rfl)) ?aP (fun _ hk=>hk.elim) ?aF ?aO ?aB ?aS ?aL ?_;(case aP=>exact rfl);(case aB=>exact (by exact bZ_ HB));(case aF=>exact (fun _ _=>trivial));(case aO=>exact (by (with_reducible repeat (first | apply rA_ | apply rN_ | apply rD_));exact Kd.R_mono (Kd.R_far (p:=⟨gb334,1,none⟩) (Kd.R_far (p:=⟨gb334,0,none⟩) (Kd.R_types HO_5.out BK334.out (by decide)) (fun _ hk=>hk.2) (.int .i64 ((rd_T85 l1 x11_1).f0))) (fun _ hk=>hk.2) (.bool true)) (fun _ hk=>trivial)));(case aS=>exact (bS_ (by exact bZ_ HB)));(case aL=>have:=LMc12.out;omega);intro v337 w17 ho hb hg hat;rw [← Ny336.out] at ho;have n0_:=aM_ (blk_grown (g:=gb332) (o:=.cells #[.string a0_0,.slice (some ad335) l0_1.length c0_1,.slice A0_2 l0_2.length c0_2,.slice A0_3 l0_3.length c0_3] 35 (0,0)) (by exact kW_ BK332) hg (Kd.R_ne HO_5.out BK332.out (by decide)));have n1_:=aM_ (blk_grown (g:=gb334) (o:=.cells #[.int .i64 ((rd_T85 l1 x11_1).f0),.bool true] 85 (0,0)) (by (with_reducible repeat (first | refine kN_ ?_ _ | refine kD_ ?_ | refine kA_ ?_ _));refine kP_ (cs:=#[.int .i64 ((rd_T85 l1 x11_1).f0),.bool false]) ?_ 1 _ rfl;(with_reducible repeat (first | refine kN_ ?_ _ | refine kD_ ?_ | refine kA_ ?_ _));refine kP_ (cs:=#[.int .i64 0,.bool false]) ?_ 0 _ rfl;exact kZ_ BK334) hg (Kd.R_ne HO_5.out BK334.out (by decide)));have n2_:=aM_ (hb);have n3_:=aM_ (ho);clear BK332 BK334 HB HO_5;have BK332:=n0_;have BK334:=n1_;have HB:=n2_;have HO338:=n3_;clear n0_ n1_ n2_ n3_ ho hb hg hat))
           go_roundg k1
           case measure=>have:=HK1.out;omega
           case rel=>exact ⟨(y336),(wrap64 (x11_1 + 1)),(by first | rfl | (simp;done) | (simp [*];done)),H', ⟨by have:=HK1.out;omega⟩,⟨by exact rZ_ HO338⟩,⟨by exact kZ_ BK332⟩,⟨by exact bZ_ HB⟩⟩
          ·rw [if_neg c12] at H
           exact absurd H (by simp)
         ·rw [if_neg c11] at H
          exact absurd H (by simp)
        ·replace c10:=Bool.eq_false_iff.mpr c10
         subst c10
         have H1 : (if x5_1.length < 8796093022208 then (impl_partsText.l0 k1 (x5_1 ++ [(rd_T82 l0_1 ((rd_T85 l1 x11_1).f0)).f0]) l1 (l1.length : Int) (wrap64 (x11_1 + 1)) a0_0 l0_1 l0_2 l0_3) else (none)) = some r:=by rw [if_neg (show ¬ (false = true) by decide)] at H;exact H
         clear H
         have H:=H1
         clear H1
         by_cases c18 : x5_1.length < 8796093022208
         ·rw [if_pos c18] at H
          have LMc18:=aM_ c18
          clear c18
          obtain ⟨y339,hy339⟩ : ∃ y_ : List ByteArray,y_ = (x5_1 ++ [(rd_T82 l0_1 ((rd_T85 l1 x11_1).f0)).f0]):=⟨_,rfl⟩
          replace H : (impl_partsText.l0 k1 y339 l1 (l1.length : Int) (wrap64 (x11_1 + 1)) a0_0 l0_1 l0_2 l0_3) = some r:=by first | (rw [hy339];with_reducible exact H) | (have H2_:=(Option.bind_some _ _).symm.trans H;rw [hy339];with_reducible exact H2_) | (have H2_:=(Option.bind_some _ _).symm.trans H;with_reducible exact H2_) | with_reducible exact H | (rw [hy339];exact H) | exact H
          have Ny339:=aM_ hy339
          clear hy339
          have H':=aM_ H
          clear H
          have p333 : 0 ≤ (x11_1 : Int):=oT_ (by first | (with_reducible assumption) | assumption)
          have q333 : x11_1 < (l1.length : Int):=oT_ (by first | (with_reducible assumption) | assumption)
          obtain ⟨ad333,e333,hx333_0,hx333_1⟩:=at_T85 HR1.out x11_1 p333 q333
          (try rw [← Nbq9.out] at hx333_1)
          cases e333
          replace hx333_0:=(HB.out.cell (wL_ w _ hx333_0)).trans hx333_0
          replace hx333_1:=(HB.out.cell (wL_ w _ hx333_1)).trans hx333_1
          replace p333:=eq_true p333
          replace q333:=eq_true q333
          go_wp2_with (first | ((with_reducible refine gate_dst (N:=7) rfl ?_);refine box_event ?hg (N:=7) ?hd (cs:=#[.int .i64 0,.bool false]) (t:=85) ?hr ?_;(case hd=>rfl);(case hg=>rfl);(case hr=>first | (go_simp;done) | (go_simp;rfl));intro gb334 hg w19 hbox hb;have n0_:=aM_ (Kd.R_below (by exact rZ_ HO_5) hb);have n1_:=aM_ (blk_below (g:=gb332) (o:=.cells #[.string a0_0,.slice A0_1 l0_1.length c0_1,.slice A0_2 l0_2.length c0_2,.slice A0_3 l0_3.length c0_3] 35 (0,0)) (by exact kZ_ BK332) hb);have n2_:=aM_ (bT_ (by exact bZ_ HB) hb);have n3_:=aM_ (hbox);have n4_:=aM_ ((by rw [hg];exact (bS_ (by exact bZ_ HB)) : w.heap.size ≤ gb334));have n5_:=aM_ ((by rw [hg];exact (bS_ (by exact bZ_ HB)) : w.heap.size ≤ gb334));have n6_:=aM_ ((by rw [hg];exact nN_ (blk_lt (g:=gb332) (o:=.cells #[.string a0_0,.slice A0_1 l0_1.length c0_1,.slice A0_2 l0_2.length c0_2,.slice A0_3 l0_3.length c0_3] 35 (0,0)) (by exact kZ_ BK332)) : gb332 ≠ gb334));have n7_:=aM_ ((by rw [hg];exact Nat.ne_of_gt (blk_lt (g:=gb332) (o:=.cells #[.string a0_0,.slice A0_1 l0_1.length c0_1,.slice A0_2 l0_2.length c0_2,.slice A0_3 l0_3.length c0_3] 35 (0,0)) (by exact kZ_ BK332)) : gb334 ≠ gb332));clear HO_5 BK332 HB;have HO_5:=n0_;have BK332:=n1_;have HB:=n2_;have BK334:=n3_;have GW334:=n4_;have GE334:=n5_;have NB332_334:=n6_;have NB334_332:=n7_;clear n0_ n1_ n2_ n3_ n4_ n5_ n6_ n7_ hb hbox hg;have hnb20:=NB334_332.out;have hnc20:=NB332_334.out;have hcz21_0 : w19.cell? ⟨gb334,0,none⟩ = some (.int .i64 0):=(kC_ BK334.out 0).trans rfl;have hcz21_1 : w19.cell? ⟨gb334,1,none⟩ = some (.bool false):=(kC_ BK334.out 1).trans rfl;have hfz21_0:=kF_ BK334.out 0;have hfz21_1:=kF_ BK334.out 1;have hcz22_0 : w19.cell? ⟨gb332,0,none⟩ = some (.string a0_0):=(kC_ BK332.out 0).trans rfl;have hcz22_1 : w19.cell? ⟨gb332,1,none⟩ = some (.slice A0_1 l0_1.length c0_1):=(kC_ BK332.out 1).trans rfl;have hcz22_2 : w19.cell? ⟨gb332,2,none⟩ = some (.slice A0_2 l0_2.length c0_2):=(kC_ BK332.out 2).trans rfl;have hcz22_3 : w19.cell? ⟨gb332,3,none⟩ = some (.slice A0_3 l0_3.length c0_3):=(kC_ BK332.out 3).trans rfl;have hfz22_0:=kF_ BK332.out 0;have hfz22_1:=kF_ BK332.out 1;have hfz22_2:=kF_ BK332.out 2;have hfz22_3:=kF_ BK332.out 3;have p335 : 0 ≤ (((rd_T85 l1 x11_1).f0) : Int):=oT_ (by first | (with_reducible assumption) | assumption);have q335 : ((rd_T85 l1 x11_1).f0) < (l0_1.length : Int):=oT_ (by first | (with_reducible assumption) | assumption);obtain ⟨ad335,e335,hx335_0,hx335_1,hx335_2⟩:=at_T82 HR0_1.out ((rd_T85 l1 x11_1).f0) p335 q335;(try rw [← Nbq9.out] at hx335_2);cases e335;have hn335_0 : ad335.block ≠ gb334:=nN_ (nL_ (by have:=wL_ _ _ hx335_0;first | rwa [add_block] at this | exact this) GW334.out);have hn335_1 : ad335.block ≠ gb334:=nN_ (nL_ (by have:=wL_ _ _ hx335_0;first | rwa [add_block] at this | exact this) GW334.out);replace hx335_0:=(HB.out.cell (wL_ w _ hx335_0)).trans hx335_0;replace hx335_1:=(HB.out.cell (wL_ w _ hx335_1)).trans hx335_1;replace hx335_2:=(HB.out.cell (wL_ w _ hx335_2)).trans hx335_2;replace hx335_0:=(cell_far (p:=⟨gb334,0,none⟩) (by first | (rw [add_block];exact hn335_0) | (show (Addr.add _ _).block ≠ _;rw [add_block];exact hn335_0) | exact hn335_0) (.int .i64 ((rd_T85 l1 x11_1).f0))).trans hx335_0;replace hx335_1:=(cell_far (p:=⟨gb334,0,none⟩) (by first | (rw [add_block];exact hn335_0) | (show (Addr.add _ _).block ≠ _;rw [add_block];exact hn335_0) | exact hn335_0) (.int .i64 ((rd_T85 l1 x11_1).f0))).trans hx335_1;replace hx335_2:=(cell_far (p:=⟨gb334,0,none⟩) (by first | (rw [add_block];exact hn335_0) | (show (Addr.add _ _).block ≠ _;rw [add_block];exact hn335_0) | exact hn335_0) (.int .i64 ((rd_T85 l1 x11_1).f0))).trans hx335_2;replace hx335_0:=(cell_far (p:=⟨gb334,1,none⟩) (by first | (rw [add_block];exact hn335_1) | (show (Addr.add _ _).block ≠ _;rw [add_block];exact hn335_1) | exact hn335_1) (.bool false)).trans hx335_0;replace hx335_1:=(cell_far (p:=⟨gb334,1,none⟩) (by first | (rw [add_block];exact hn335_1) | (show (Addr.add _ _).block ≠ _;rw [add_block];exact hn335_1) | exact hn335_1) (.bool false)).trans hx335_1;replace hx335_2:=(cell_far (p:=⟨gb334,1,none⟩) (by first | (rw [add_block];exact hn335_1) | (show (Addr.add _ _).block ≠ _;rw [add_block];exact hn335_1) | exact hn335_1) (.bool false)).trans hx335_2;clear hn335_0 hn335_1;replace p335:=eq_true p335;replace q335:=eq_true q335) | ((with_reducible refine gate_builtin (b:=.append) (xs:=#[.tmp 26,.tmp 28]) rfl ?_);at_builtin;refine Kd.R_append Kd.string (w0:=w) w.heap.size rfl (.tmp 26) (.tmp 28) 88 9 (.string ⟨#[]⟩) 16 rfl Tryd.underlying88 info9 rfl (by decide) (by omega) u5 x5_1 ((rd_T82 l0_1 ((rd_T85 l1 x11_1).f0)).f0) [.string ((rd_T82 l0_1 ((rd_T85 l1 x11_1).f0)).f0)] (fun _=>True) (fun _=>False) rfl (by first | (go_simp;done) | (go_simp;rfl)) ?aP (fun _ hk=>hk.elim) ?aF ?aO ?aB ?aS ?aL ?_;(case aP=>exact rfl);(case aB=>exact (by exact bZ_ HB));(case aF=>exact (fun _ _=>trivial));(case aO=>exact (by (with_reducible repeat (first | apply rA_ | apply rN_ | apply rD_));exact Kd.R_mono (Kd.R_far (p:=⟨gb334,1,none⟩) (Kd.R_far (p:=⟨gb334,0,none⟩) (Kd.R_types HO_5.out BK334.out (by decide)) (fun _ hk=>hk.2) (.int .i64 ((rd_T85 l1 x11_1).f0))) (fun _ hk=>hk.2) (.bool false)) (fun _ hk=>trivial)));(case aS=>exact (bS_ (by exact bZ_ HB)));(case aL=>have:=LMc18.out;omega);intro v340 w23 ho hb hg hat;rw [← Ny339.out] at ho;have n0_:=aM_ (blk_grown (g:=gb332) (o:=.cells #[.string a0_0,.slice (some ad335) l0_1.length c0_1,.slice A0_2 l0_2.length c0_2,.slice A0_3 l0_3.length c0_3] 35 (0,0)) (by exact kW_ BK332) hg (Kd.R_ne HO_5.out BK332.out (by decide)));have n1_:=aM_ (blk_grown (g:=gb334) (o:=.cells #[.int .i64 ((rd_T85 l1 x11_1).f0),.bool false] 85 (0,0)) (by (with_reducible repeat (first | refine kN_ ?_ _ | refine kD_ ?_ | refine kA_ ?_ _));refine kP_ (cs:=#[.int .i64 ((rd_T85 l1 x11_1).f0),.bool false]) ?_ 1 _ rfl;(with_reducible repeat (first | refine kN_ ?_ _ | refine kD_ ?_ | refine kA_ ?_ _));refine kP_ (cs:=#[.int .i64 0,.bool false]) ?_ 0 _ rfl;exact kZ_ BK334) hg (Kd.R_ne HO_5.out BK334.out (by decide)));have n2_:=aM_ (hb);have n3_:=aM_ (ho);clear BK332 BK334 HB HO_5;have BK332:=n0_;have BK334:=n1_;have HB:=n2_;have HO341:=n3_;clear n0_ n1_ n2_ n3_ ho hb hg hat))
          go_roundg k1
          case measure=>have:=HK1.out;omega
          case rel=>exact ⟨(y339),(wrap64 (x11_1 + 1)),(by first | rfl | (simp;done) | (simp [*];done)),H', ⟨by have:=HK1.out;omega⟩,⟨by exact rZ_ HO341⟩,⟨by exact kZ_ BK332⟩,⟨by exact bZ_ HB⟩⟩
         ·rw [if_neg c18] at H
          exact absurd H (by simp)
       ·rw [if_neg c8] at H
        exact absurd H (by simp)
      ·rw [if_neg c7] at H
       exact absurd H (by simp)
     ·rw [if_neg c6] at H
      exact absurd H (by simp)
    ·rw [if_neg c5] at H
     exact absurd H (by simp)
   ·rw [if_neg c4] at H
    have c4b0 : decide (x11_1 < (l1.length : Int)) = false:=decide_eq_false c4
    clear c4
    replace H:=oB_ H
    obtain ⟨t342,A240,H⟩:=H
    replace H : (if t342.size + 2 ≤ 9223372036854775807 then (some (t342 ++ (⟨#[59,32]⟩ : ByteArray))) else (none)) = some r:=H
    have A24:=aM_ A240
    clear A240
    by_cases c25 : t342.size + 2 ≤ 9223372036854775807
    ·rw [if_pos c25] at H
     have c25b0:=eq_true c25
     have c25b1 : decide (t342.size + 2 ≤ 9223372036854775807) = true:=decide_eq_true c25
     try have c25b2 : (9223372036854775807 < t342.size + 2) = False:=eq_false (Nat.not_lt.2 c25)
     obtain rfl:=Option.some.inj H
     obtain ⟨Ao26,co26,eo26⟩:=Kd.R_slice HO_5.out
     subst eo26
     go_wp2_with (first | ((with_reducible refine gate_callee (f:=111) rfl ?_);refine goesL_ (some 32) rfl rfl Tryd.func111 (by kernel_rfl) rfl #[.slice Ao26 x5_1.length co26,.string (⟨#[44,32]⟩ : ByteArray)] rfl (by (try simp only [mA_,mC_,mN_]);first | done | rfl | (simp only [lD_,lT_];rfl)) ?_;(with_reducible refine (strings_Join.calls _ _ x5_1 (⟨#[44,32]⟩ : ByteArray) t342 _ ?side1 ?side2 A24.out).mono ?_);(case side1=>repeat (first | exact (Kd.R_reads' HO_5.out).2.2 | (with_reducible refine cA_ ?_ _) | (with_reducible refine cN_ ?_ _) | (with_reducible refine cD_ ?_)));(case side2=>exact (Kd.R_reads' HO_5.out).2.1);rintro e w27 ⟨rfl,hb⟩;refine ⟨_,rfl,?_⟩;have n0_:=aM_ (Kd.R_below (by exact rZ_ HO_5) hb);have n1_:=aM_ (blk_below (g:=gb332) (o:=.cells #[.string a0_0,.slice A0_1 l0_1.length c0_1,.slice A0_2 l0_2.length c0_2,.slice A0_3 l0_3.length c0_3] 35 (0,0)) (by exact kZ_ BK332) hb);have n2_:=aM_ (bT_ (by exact bZ_ HB) hb);clear HO_5 BK332 HB;have HO_5:=n0_;have BK332:=n1_;have HB:=n2_;clear n0_ n1_ n2_ hb))
     go_ret
     exact ⟨by first | rfl | (simp [errW_none,errW_some] <;> rfl) | (simp [*, errW_none,errW_some] <;> rfl),by exact bZ_ HB⟩
    ·rw [if_neg c25] at H
     exact absurd H (by simp)
end Go.Proofs.YtipehkeabnfngaaDoor.PFnExactDefsText
