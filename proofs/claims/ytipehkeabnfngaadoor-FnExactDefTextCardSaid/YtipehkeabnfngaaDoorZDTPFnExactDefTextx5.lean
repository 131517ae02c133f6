import Derived.Test.YtipehkeabnfngaaDoorZDTPFnExactDefTextx0
import Derived.Test.YtipehkeabnfngaaDoorZDTPFnExactDefTextx4
namespace Go.Proofs.YtipehkeabnfngaaDoor.PFnExactDefText
open Go.RowKit Go.Proofs.YtipehkeabnfngaaDoorW.PrintWords Go.Proofs.YtipehkeabnfngaaDoorW.PrintLast Go.Proofs.YtipehkeabnfngaaDoorW.PrintMore Go.Proofs.YtipehkeabnfngaaDoor.Xtra
attribute [local go_sem] max2_int min2_int max_two min_two max_three min_three max_four min_four str_leq str_gtr str_geq setCell_drewN cell_set2 cell_set3   -- for this text's walks alone
set_option linter.unusedVariables false
set_option linter.unusedSimpArgs false
def impl_partsText.l0 : Nat → List ByteArray → List (S85) → Int → Int → ByteArray → List (S82) → List (S85) → List (S69) → Option (ByteArray)
 | 0,_,_,_,_,_,_,_,_=>none
 | k + 1,x5,x9,x10,x11,x160000,x160001,x160002,x160003=>if x11 < x10 then (if 0 ≤ x11 then (if x11 < (x9.length : Int) then (if 0 ≤ ((rd_T85 x9 x11).f0) then (if ((rd_T85 x9 x11).f0) < (x160001.length : Int) then (if (rd_T85 x9 x11).f1 = true then (if ((rd_T82 x160001 ((rd_T85 x9 x11).f0)).f0).size + 5 ≤ 9223372036854775807 then (if x5.length < 8796093022208 then (impl_partsText.l0 k (x5 ++ [((rd_T82 x160001 ((rd_T85 x9 x11).f0)).f0) ++ (⟨#[32,100,101,115,99]⟩ : ByteArray)]) x9 x10 (wrap64 (x11 + 1)) x160000 x160001 x160002 x160003) else (none)) else (none)) else (if x5.length < 8796093022208 then (impl_partsText.l0 k (x5 ++ [(rd_T82 x160001 ((rd_T85 x9 x11).f0)).f0]) x9 x10 (wrap64 (x11 + 1)) x160000 x160001 x160002 x160003) else (none))) else (none)) else (none)) else (none)) else (none)) else ((strings_Join.f x5 (⟨#[44,32]⟩ : ByteArray)).bind fun t169=>(if t169.size + 2 ≤ 9223372036854775807 then (some (t169 ++ (⟨#[59,32]⟩ : ByteArray))) else (none)))
def impl_partsText.f (k : Nat) (a0_0 : ByteArray) (l0_1 : List (S82)) (l0_2 : List (S85)) (l0_3 : List (S69)) (l1 : List (S85)) : Option (ByteArray):=impl_partsText.l0 k ([] : List ByteArray) l1 (l1.length : Int) 0 a0_0 l0_1 l0_2 l0_3
theorem impl_partsText.mono_l : ∀ k,(∀ y0 y1 y2 y3 y4 y5 y6 y7,LeO (impl_partsText.l0 k y0 y1 y2 y3 y4 y5 y6 y7) (impl_partsText.l0 (k + 1) y0 y1 y2 y3 y4 y5 y6 y7))
 | 0=>fun _ _ _ _ _ _ _ _ r h=>by simp [impl_partsText.l0] at h
 | k + 1=>by
  have ih0:=impl_partsText.mono_l k
  ·intro y0 y1 y2 y3 y4 y5 y6 y7
   unfold impl_partsText.l0
   repeat' first
   | (with_reducible exact ih0 _ _ _ _ _ _ _ _)
   | (with_reducible exact LeO.refl _)
   | (with_reducible exact LeO.none _)
   | (with_reducible refine LeO.ite ?_ ?_)
   | (with_reducible refine LeO.bind ?_ (fun _=>?_))
   | exact ih0 _ _ _ _ _ _ _ _
   | exact LeO.none _
   | refine LeO.ite ?_ ?_
   | refine LeO.bind ?_ (fun _=>?_)
theorem impl_partsText.mono : ∀ a0 a1 a2 a3 a4 k,LeO (impl_partsText.f k a0 a1 a2 a3 a4) (impl_partsText.f (k + 1) a0 a1 a2 a3 a4):=by
 intro a0 a1 a2 a3 a4 k
 have ih0:=impl_partsText.mono_l k
 unfold impl_partsText.f
 repeat' first
   | (with_reducible exact ih0 _ _ _ _ _ _ _ _)
   | (with_reducible exact LeO.refl _)
   | (with_reducible exact LeO.none _)
   | (with_reducible refine LeO.ite ?_ ?_)
   | (with_reducible refine LeO.bind ?_ (fun _=>?_))
   | exact ih0 _ _ _ _ _ _ _ _
   | exact LeO.none _
   | refine LeO.ite ?_ ?_
   | refine LeO.bind ?_ (fun _=>?_)
set_option maxHeartbeats 8000000 in
set_option maxRecDepth 100000 in
theorem impl_partsText.calls (k : Nat) (a0_0 : ByteArray) (A0_1 : Option Addr) (c0_1 : Nat) (l0_1 : List (S82)) (A0_2 : Option Addr) (c0_2 : Nat) (l0_2 : List (S85)) (A0_3 : Option Addr) (c0_3 : Nat) (l0_3 : List (S69)) (A1 : Option Addr) (c1 : Nat) (l1 : List (S85)) (r : ByteArray) (w : World) (hr0_1 : Kd.C k82 w A0_1 l0_1.length l0_1) (hc0_1 : l0_1.length ≤ c0_1) (hr0_2 : Kd.C k85 w A0_2 l0_2.length l0_2) (hc0_2 : l0_2.length ≤ c0_2) (hr0_3 : Kd.C k69 w A0_3 l0_3.length l0_3) (hc0_3 : l0_3.length ≤ c0_3) (hr1 : Kd.C k85 w A1 l1.length l1) (hc1 : l1.length ≤ c1) (h : impl_partsText.f k a0_0 l0_1 l0_2 l0_3 l1 = some r) :
  Calls Tryd.prog 65 #[.agg #[.string a0_0,.slice A0_1 l0_1.length c0_1,.slice A0_2 l0_2.length c0_2,.slice A0_3 l0_3.length c0_3],.slice A1 l1.length c1] w fun e w'=>e = .returned (.string r) ∧ Below w.heap.size w w':=by
 have hu35:=Tryd.underlying35
 have hu85:=Tryd.underlying85
 have HR0_1:=aM_ hr0_1
 have HC0_1:=aM_ hc0_1
 clear hr0_1 hc0_1
 have HR0_2:=aM_ hr0_2
 have HC0_2:=aM_ hc0_2
 clear hr0_2 hc0_2
 have HR0_3:=aM_ hr0_3
 have HC0_3:=aM_ hc0_3
 clear hr0_3 hc0_3
 have HR1:=aM_ hr1
 have HC1:=aM_ hc1
 clear hr1 hc1
 have HB:=aM_ (Below.refl w.heap.size w)
 have H : (impl_partsText.l0 k ([] : List ByteArray) l1 (l1.length : Int) 0 a0_0 l0_1 l0_2 l0_3) = some r:=h
 clear h
 have H':=aM_ H
 clear H
 go_enter Tryd.func65,Tryd.ntmps65
 go_wp2_with (first | ((with_reducible refine gate_dst (N:=2) rfl ?_);refine box_event ?hg (N:=2) ?hd (cs:=#[.string a0_0,.slice A0_1 l0_1.length c0_1,.slice A0_2 l0_2.length c0_2,.slice A0_3 l0_3.length c0_3]) (t:=35) ?hr ?_;(case hd=>rfl);(case hg=>rfl);(case hr=>first | (go_simp;done) | (go_simp;rfl));intro gb159 hg w3 hbox hb;have n0_:=aM_ (bT_ (by exact bZ_ HB) hb);have n1_:=aM_ (hbox);have n2_:=aM_ ((by rw [hg];exact (bS_ (by exact bZ_ HB)) : w.heap.size ≤ gb159));have n3_:=aM_ ((by rw [hg];exact (bS_ (by exact bZ_ HB)) : w.heap.size ≤ gb159));clear HB;have HB:=n0_;have BK159:=n1_;have GW159:=n2_;have GE159:=n3_;clear n0_ n1_ n2_ n3_;clear hb hbox hg))
 (try simp only [Act.put,sI_,sS_,sZ_])
 go_loopg [5,11] k (fun kq v5 v11 w'=>∃ (x5_1 : List ByteArray) (x11_1 : Int),v11 = .int .i64 x11_1 ∧ Aside0 (impl_partsText.l0 kq x5_1 l1 (l1.length : Int) x11_1 a0_0 l0_1 l0_2 l0_3 = some r) ∧ Aside0 (kq ≤ k) ∧ Aside0 (Kd.R Kd.string 9 w' w.heap.size (fun _=>True) v5 x5_1) ∧ Aside0 (w'.heap[gb159]? = some (.cells #[.string a0_0,(.slice A0_1 l0_1.length c0_1),(.slice A0_2 l0_2.length c0_2),(.slice A0_3 l0_3.length c0_3)] 35 (0,0))) ∧ Aside0 (Below w.heap.size w w'))
 case atStart=>exact ⟨(([] : List ByteArray)),(0),(by first | rfl | (simp;done) | (simp [*];done)),H', ⟨Nat.le_refl _⟩,⟨by first | exact Kd.R_nil _ _ _ _ _ | exact Kd.N_nil _ _ _ _ _ | exact Kd.V_nil _ _ _ _ _ | exact Kd.Q_nil _ _ _ _ _ | exact Kd.S_nil _ _ _ _ _⟩,⟨by exact kZ_ BK159⟩,⟨by exact bZ_ HB⟩⟩
 case round =>
  clear H'
  try clear c1
  try clear p2
  obtain ⟨x5_1,x11_1,rfl,HA,HK1,HO_5,BK159,HB⟩:=hrel
  cases gk with
  | zero=>exact absurd HA.out (by simp [impl_partsText.l0])
  | succ k1 =>
   have H:=HA.out
   clear HA
   simp only [impl_partsText.l0] at H
   by_cases c4 : x11_1 < (l1.length : Int)
   ·rw [if_pos c4] at H
    have c4b0 : decide (x11_1 < (l1.length : Int)) = true:=decide_eq_true c4
    clear c4
    by_cases c5 : 0 ≤ x11_1
    ·rw [if_pos c5] at H
     have c5b0 : decide (0 ≤ x11_1) = true:=decide_eq_true c5
     clear c5
     by_cases c6 : x11_1 < (l1.length : Int)
     ·rw [if_pos c6] at H
      have c6b0 : decide (x11_1 < (l1.length : Int)) = true:=decide_eq_true c6
      clear c6
      by_cases c7 : 0 ≤ ((rd_T85 l1 x11_1).f0)
      ·rw [if_pos c7] at H
       have c7b0 : decide (0 ≤ ((rd_T85 l1 x11_1).f0)) = true:=decide_eq_true c7
       clear c7
       by_cases c8 : ((rd_T85 l1 x11_1).f0) < (l0_1.length : Int)
       ·rw [if_pos c8] at H
        have c8b0 : decide (((rd_T85 l1 x11_1).f0) < (l0_1.length : Int)) = true:=decide_eq_true c8
        clear c8
        obtain ⟨bq9,hbq9⟩ : ∃ b_ : Bool,b_ = ((rd_T85 l1 x11_1).f1):=⟨_,rfl⟩
        replace H : (if bq9 = true then (if ((rd_T82 l0_1 ((rd_T85 l1 x11_1).f0)).f0).size + 5 ≤ 9223372036854775807 then (if x5_1.length < 8796093022208 then (impl_partsText.l0 k1 (x5_1 ++ [((rd_T82 l0_1 ((rd_T85 l1 x11_1).f0)).f0) ++ (⟨#[32,100,101,115,99]⟩ : ByteArray)]) l1 (l1.length : Int) (wrap64 (x11_1 + 1)) a0_0 l0_1 l0_2 l0_3) else (none)) else (none)) else (if x5_1.length < 8796093022208 then (impl_partsText.l0 k1 (x5_1 ++ [(rd_T82 l0_1 ((rd_T85 l1 x11_1).f0)).f0]) l1 (l1.length : Int) (wrap64 (x11_1 + 1)) a0_0 l0_1 l0_2 l0_3) else (none))) = some r:=by rw [← hbq9] at H;exact H
        have Nbq9:=aM_ hbq9
        clear hbq9
        by_cases c10 : bq9 = true
        ·subst c10
         have H1 : (if ((rd_T82 l0_1 ((rd_T85 l1 x11_1).f0)).f0).size + 5 ≤ 9223372036854775807 then (if x5_1.length < 8796093022208 then (impl_partsText.l0 k1 (x5_1 ++ [((rd_T82 l0_1 ((rd_T85 l1 x11_1).f0)).f0) ++ (⟨#[32,100,101,115,99]⟩ : ByteArray)]) l1 (l1.length : Int) (wrap64 (x11_1 + 1)) a0_0 l0_1 l0_2 l0_3) else (none)) else (none)) = some r:=by rw [if_pos rfl] at H;exact H
         clear H
         have H:=H1
         clear H1
         by_cases c11 : ((rd_T82 l0_1 ((rd_T85 l1 x11_1).f0)).f0).size + 5 ≤ 9223372036854775807
         ·rw [if_pos c11] at H
          have c11b0:=eq_true c11
          have c11b1 : decide (((rd_T82 l0_1 ((rd_T85 l1 x11_1).f0)).f0).size + 5 ≤ 9223372036854775807) = true:=decide_eq_true c11
          try have c11b2 : (9223372036854775807 < ((rd_T82 l0_1 ((rd_T85 l1 x11_1).f0)).f0).size + 5) = False:=eq_false (Nat.not_lt.2 c11)
          by_cases c12 : x5_1.length < 8796093022208
          ·rw [if_pos c12] at H
           have LMc12:=aM_ c12
           clear c12
           obtain ⟨y163,hy163⟩ : ∃ y_ : List ByteArray,y_ = (x5_1 ++ [((rd_T82 l0_1 ((rd_T85 l1 x11_1).f0)).f0) ++ (⟨#[32,100,101,115,99]⟩ : ByteArray)]):=⟨_,rfl⟩
           replace H : (impl_partsText.l0 k1 y163 l1 (l1.length : Int) (wrap64 (x11_1 + 1)) a0_0 l0_1 l0_2 l0_3) = some r:=by first | (rw [hy163];with_reducible exact H) | (have H2_:=(Option.bind_some _ _).symm.trans H;rw [hy163];with_reducible exact H2_) | (have H2_:=(Option.bind_some _ _).symm.trans H;with_reducible exact H2_) | with_reducible exact H | (rw [hy163];exact H) | exact H
           have Ny163:=aM_ hy163
           clear hy163
           have H':=aM_ H
           clear H
           have p160 : 0 ≤ (x11_1 : Int):=oT_ (by first | (with_reducible assumption) | assumption)
           have q160 : x11_1 < (l1.length : Int):=oT_ (by first | (with_reducible assumption) | assumption)
           obtain ⟨ad160,e160,hx160_0,hx160_1⟩:=at_T85 HR1.out x11_1 p160 q160
           (try rw [← Nbq9.out] at hx160_1)
           cases e160
           replace hx160_0:=(HB.out.cell (wL_ w _ hx160_0)).trans hx160_0
           replace hx160_1:=(HB.out.cell (wL_ w _ hx160_1)).trans hx160_1
           replace p160:=eq_true p160
           replace q160:=eq_true q160
           go_wp2_with (first | ((with_reducible refine gate_dst (N:=7) rfl ?_);refine box_event ?hg (N:=7) ?hd (cs:=#[.int .i64 0,.bool false]) (t:=85) ?hr ?_;(case hd=>rfl);(case hg=>rfl);(case hr=>first | (go_simp;done) | (go_simp;rfl));intro gb161 hg w13 hbox hb;have n0_:=aM_ (Kd.R_below (by exact rZ_ HO_5) hb);have n1_:=aM_ (blk_below (g:=gb159) (o:=.cells #[.string a0_0,.slice A0_1 l0_1.length c0_1,.slice A0_2 l0_2.length c0_2,.slice A0_3 l0_3.length c0_3] 35 (0,0)) (by exact kZ_ BK159) hb);have n2_:=aM_ (bT_ (by exact bZ_ HB) hb);have n3_:=aM_ (hbox);have n4_:=aM_ ((by rw [hg];exact (bS_ (by exact bZ_ HB)) : w.heap.size ≤ gb161));have n5_:=aM_ ((by rw [hg];exact (bS_ (by exact bZ_ HB)) : w.heap.size ≤ gb161));have n6_:=aM_ ((by rw [hg];exact nN_ (blk_lt (g:=gb159) (o:=.cells #[.string a0_0,.slice A0_1 l0_1.length c0_1,.slice A0_2 l0_2.length c0_2,.slice A0_3 l0_3.length c0_3] 35 (0,0)) (by exact kZ_ BK159)) : gb159 ≠ gb161));have n7_:=aM_ ((by rw [hg];exact Nat.ne_of_gt (blk_lt (g:=gb159) (o:=.cells #[.string a0_0,.slice A0_1 l0_1.length c0_1,.slice A0_2 l0_2.length c0_2,.slice A0_3 l0_3.length c0_3] 35 (0,0)) (by exact kZ_ BK159)) : gb161 ≠ gb159));clear HO_5;clear BK159;clear HB;have HO_5:=n0_;have BK159:=n1_;have HB:=n2_;have BK161:=n3_;have GW161:=n4_;have GE161:=n5_;have NB159_161:=n6_;have NB161_159:=n7_;clear n0_ n1_ n2_ n3_ n4_ n5_ n6_ n7_;clear hb hbox hg;have hnb14:=NB161_159.out;have hnc14:=NB159_161.out;have hcz15_0 : w13.cell? ⟨gb161,0,none⟩ = some (.int .i64 0):=(kC_ BK161.out 0).trans rfl;have hcz15_1 : w13.cell? ⟨gb161,1,none⟩ = some (.bool false):=(kC_ BK161.out 1).trans rfl;have hfz15_0:=kF_ BK161.out 0;have hfz15_1:=kF_ BK161.out 1;have hcz16_0 : w13.cell? ⟨gb159,0,none⟩ = some (.string a0_0):=(kC_ BK159.out 0).trans rfl;have hcz16_1 : w13.cell? ⟨gb159,1,none⟩ = some (.slice A0_1 l0_1.length c0_1):=(kC_ BK159.out 1).trans rfl;have hcz16_2 : w13.cell? ⟨gb159,2,none⟩ = some (.slice A0_2 l0_2.length c0_2):=(kC_ BK159.out 2).trans rfl;have hcz16_3 : w13.cell? ⟨gb159,3,none⟩ = some (.slice A0_3 l0_3.length c0_3):=(kC_ BK159.out 3).trans rfl;have hfz16_0:=kF_ BK159.out 0;have hfz16_1:=kF_ BK159.out 1;have hfz16_2:=kF_ BK159.out 2;have hfz16_3:=kF_ BK159.out 3;have p162 : 0 ≤ (((rd_T85 l1 x11_1).f0) : Int):=oT_ (by first | (with_reducible assumption) | assumption);have q162 : ((rd_T85 l1 x11_1).f0) < (l0_1.length : Int):=oT_ (by first | (with_reducible assumption) | assumption);obtain ⟨ad162,e162,hx162_0,hx162_1,hx162_2⟩:=at_T82 HR0_1.out ((rd_T85 l1 x11_1).f0) p162 q162;(try rw [← Nbq9.out] at hx162_2);cases e162;have hn162_0 : ad162.block ≠ gb161:=nN_ (nL_ (by have:=wL_ _ _ hx162_0;first | rwa [add_block] at this | exact this) GW161.out);have hn162_1 : ad162.block ≠ gb161:=nN_ (nL_ (by have:=wL_ _ _ hx162_0;first | rwa [add_block] at this | exact this) GW161.out);replace hx162_0:=(HB.out.cell (wL_ w _ hx162_0)).trans hx162_0;replace hx162_1:=(HB.out.cell (wL_ w _ hx162_1)).trans hx162_1;replace hx162_2:=(HB.out.cell (wL_ w _ hx162_2)).trans hx162_2;replace hx162_0:=(cell_far (p:=⟨gb161,0,none⟩) (by first | (rw [add_block];exact hn162_0) | (show (Addr.add _ _).block ≠ _;rw [add_block];exact hn162_0) | exact hn162_0) (.int .i64 ((rd_T85 l1 x11_1).f0))).trans hx162_0;replace hx162_1:=(cell_far (p:=⟨gb161,0,none⟩) (by first | (rw [add_block];exact hn162_0) | (show (Addr.add _ _).block ≠ _;rw [add_block];exact hn162_0) | exact hn162_0) (.int .i64 ((rd_T85 l1 x11_1).f0))).trans hx162_1;replace hx162_2:=(cell_far (p:=⟨gb161,0,none⟩) (by first | (rw [add_block];exact hn162_0) | (show (Addr.add _ _).block ≠ _;rw [add_block];exact hn162_0) | exact hn162_0) (.int .i64 ((rd_T85 l1 x11_1).f0))).trans hx162_2;replace hx162_0:=(cell_far (p:=⟨gb161,1,none⟩) (by first | (rw [add_block];exact hn162_1) | (show (Addr.add _ _).block ≠ _;rw [add_block];exact hn162_1) | exact hn162_1) (.bool true)).trans hx162_0;replace hx162_1:=(cell_far (p:=⟨gb161,1,none⟩) (by first | (rw [add_block];exact hn162_1) | (show (Addr.add _ _).block ≠ _;rw [add_block];exact hn162_1) | exact hn162_1) (.bool true)).trans hx162_1;replace hx162_2:=(cell_far (p:=⟨gb161,1,none⟩) (by first | (rw [add_block];exact hn162_1) | (show (Addr.add _ _).block ≠ _;rw [add_block];exact hn162_1) | exact hn162_1) (.bool true)).trans hx162_2;clear hn162_0;clear hn162_1;replace p162:=eq_true p162;replace q162:=eq_true q162) | ((with_reducible refine gate_builtin (b:=.append) (xs:=#[.tmp 26,.tmp 28]) rfl ?_);at_builtin;refine Kd.R_append Kd.string (w0:=w) w.heap.size rfl (.tmp 26) (.tmp 28) 88 9 (.string ⟨#[]⟩) 16 rfl Tryd.underlying88 info9 rfl (by decide) (by omega) u5 x5_1 (((rd_T82 l0_1 ((rd_T85 l1 x11_1).f0)).f0) ++ (⟨#[32,100,101,115,99]⟩ : ByteArray)) [.string (((rd_T82 l0_1 ((rd_T85 l1 x11_1).f0)).f0) ++ (⟨#[32,100,101,115,99]⟩ : ByteArray))] (fun _=>True) (fun _=>False) rfl (by first | (go_simp;done) | (go_simp;rfl)) ?aP (fun _ hk=>hk.elim) ?aF ?aO ?aB ?aS ?aL ?_;(case aP=>exact rfl);(case aB=>exact (by exact bZ_ HB));(case aF=>exact (fun _ _=>trivial));(case aO=>exact (by (with_reducible repeat (first | apply rA_ | apply rN_ | apply rD_));exact Kd.R_mono (Kd.R_far (p:=⟨gb161,1,none⟩) (Kd.R_far (p:=⟨gb161,0,none⟩) (Kd.R_types HO_5.out BK161.out (by decide)) (fun _ hk=>hk.2) (.int .i64 ((rd_T85 l1 x11_1).f0))) (fun _ hk=>hk.2) (.bool true)) (fun _ hk=>trivial)));(case aS=>exact (bS_ (by exact bZ_ HB)));(case aL=>have:=LMc12.out;omega);intro v164 w17 ho hb hg hat;rw [← Ny163.out] at ho;have n0_:=aM_ (blk_grown (g:=gb159) (o:=.cells #[.string a0_0,.slice (some ad162) l0_1.length c0_1,.slice A0_2 l0_2.length c0_2,.slice A0_3 l0_3.length c0_3] 35 (0,0)) (by exact kW_ BK159) hg (Kd.R_ne HO_5.out BK159.out (by decide)));have n1_:=aM_ (blk_grown (g:=gb161) (o:=.cells #[.int .i64 ((rd_T85 l1 x11_1).f0),.bool true] 85 (0,0)) (by (with_reducible repeat (first | refine kN_ ?_ _ | refine kD_ ?_ | refine kA_ ?_ _));refine kP_ (cs:=#[.int .i64 ((rd_T85 l1 x11_1).f0),.bool false]) ?_ 1 _ rfl;(with_reducible repeat (first | refine kN_ ?_ _ | refine kD_ ?_ | refine kA_ ?_ _));refine kP_ (cs:=#[.int .i64 0,.bool false]) ?_ 0 _ rfl;exact kZ_ BK161) hg (Kd.R_ne HO_5.out BK161.out (by decide)));have n2_:=aM_ (hb);have n3_:=aM_ (ho);clear BK159;clear BK161;clear HB;clear HO_5;have BK159:=n0_;have BK161:=n1_;have HB:=n2_;have HO165:=n3_;clear n0_ n1_ n2_ n3_;clear ho hb hg hat))
           go_roundg k1
           case measure=>have:=HK1.out;omega
           case rel=>exact ⟨(y163),(wrap64 (x11_1 + 1)),(by first | rfl | (simp;done) | (simp [*];done)),H', ⟨by have:=HK1.out;omega⟩,⟨by exact rZ_ HO165⟩,⟨by exact kZ_ BK159⟩,⟨by exact bZ_ HB⟩⟩
          ·rw [if_neg c12] at H
           exact absurd H (by simp)
         ·rw [if_neg c11] at H
          exact absurd H (by simp)
        ·replace c10:=Bool.eq_false_iff.mpr c10
         subst c10
         have H1 : (if x5_1.length < 8796093022208 then (impl_partsText.l0 k1 (x5_1 ++ [(rd_T82 l0_1 ((rd_T85 l1 x11_1).f0)).f0]) l1 (l1.length : Int) (wrap64 (x11_1 + 1)) a0_0 l0_1 l0_2 l0_3) else (none)) = some r:=by rw [if_neg (show ¬ (false = true) by decide)] at H;exact H
         clear H
         have H:=H1
         clear H1
         by_cases c18 : x5_1.length < 8796093022208
         ·rw [if_pos c18] at H
          have LMc18:=aM_ c18
          clear c18
          obtain ⟨y166,hy166⟩ : ∃ y_ : List ByteArray,y_ = (x5_1 ++ [(rd_T82 l0_1 ((rd_T85 l1 x11_1).f0)).f0]):=⟨_,rfl⟩
          replace H : (impl_partsText.l0 k1 y166 l1 (l1.length : Int) (wrap64 (x11_1 + 1)) a0_0 l0_1 l0_2 l0_3) = some r:=by first | (rw [hy166];with_reducible exact H) | (have H2_:=(Option.bind_some _ _).symm.trans H;rw [hy166];with_reducible exact H2_) | (have H2_:=(Option.bind_some _ _).symm.trans H;with_reducible exact H2_) | with_reducible exact H | (rw [hy166];exact H) | exact H
          have Ny166:=aM_ hy166
          clear hy166
          have H':=aM_ H
          clear H
          have p160 : 0 ≤ (x11_1 : Int):=oT_ (by first | (with_reducible assumption) | assumption)
          have q160 : x11_1 < (l1.length : Int):=oT_ (by first | (with_reducible assumption) | assumption)
          obtain ⟨ad160,e160,hx160_0,hx160_1⟩:=at_T85 HR1.out x11_1 p160 q160
          (try rw [← Nbq9.out] at hx160_1)
          cases e160
          replace hx160_0:=(HB.out.cell (wL_ w _ hx160_0)).trans hx160_0
          replace hx160_1:=(HB.out.cell (wL_ w _ hx160_1)).trans hx160_1
          replace p160:=eq_true p160
          replace q160:=eq_true q160
          go_wp2_with (first | ((with_reducible refine gate_dst (N:=7) rfl ?_);refine box_event ?hg (N:=7) ?hd (cs:=#[.int .i64 0,.bool false]) (t:=85) ?hr ?_;(case hd=>rfl);(case hg=>rfl);(case hr=>first | (go_simp;done) | (go_simp;rfl));intro gb161 hg w19 hbox hb;have n0_:=aM_ (Kd.R_below (by exact rZ_ HO_5) hb);have n1_:=aM_ (blk_below (g:=gb159) (o:=.cells #[.string a0_0,.slice A0_1 l0_1.length c0_1,.slice A0_2 l0_2.length c0_2,.slice A0_3 l0_3.length c0_3] 35 (0,0)) (by exact kZ_ BK159) hb);have n2_:=aM_ (bT_ (by exact bZ_ HB) hb);have n3_:=aM_ (hbox);have n4_:=aM_ ((by rw [hg];exact (bS_ (by exact bZ_ HB)) : w.heap.size ≤ gb161));have n5_:=aM_ ((by rw [hg];exact (bS_ (by exact bZ_ HB)) : w.heap.size ≤ gb161));have n6_:=aM_ ((by rw [hg];exact nN_ (blk_lt (g:=gb159) (o:=.cells #[.string a0_0,.slice A0_1 l0_1.length c0_1,.slice A0_2 l0_2.length c0_2,.slice A0_3 l0_3.length c0_3] 35 (0,0)) (by exact kZ_ BK159)) : gb159 ≠ gb161));have n7_:=aM_ ((by rw [hg];exact Nat.ne_of_gt (blk_lt (g:=gb159) (o:=.cells #[.string a0_0,.slice A0_1 l0_1.length c0_1,.slice A0_2 l0_2.length c0_2,.slice A0_3 l0_3.length c0_3] 35 (0,0)) (by exact kZ_ BK159)) : gb161 ≠ gb159));clear HO_5;clear BK159;clear HB;have HO_5:=n0_;have BK159:=n1_;have HB:=n2_;have BK161:=n3_;have GW161:=n4_;have GE161:=n5_;have NB159_161:=n6_;have NB161_159:=n7_;clear n0_ n1_ n2_ n3_ n4_ n5_ n6_ n7_;clear hb hbox hg;have hnb20:=NB161_159.out;have hnc20:=NB159_161.out;have hcz21_0 : w19.cell? ⟨gb161,0,none⟩ = some (.int .i64 0):=(kC_ BK161.out 0).trans rfl;have hcz21_1 : w19.cell? ⟨gb161,1,none⟩ = some (.bool false):=(kC_ BK161.out 1).trans rfl;have hfz21_0:=kF_ BK161.out 0;have hfz21_1:=kF_ BK161.out 1;have hcz22_0 : w19.cell? ⟨gb159,0,none⟩ = some (.string a0_0):=(kC_ BK159.out 0).trans rfl;have hcz22_1 : w19.cell? ⟨gb159,1,none⟩ = some (.slice A0_1 l0_1.length c0_1):=(kC_ BK159.out 1).trans rfl;have hcz22_2 : w19.cell? ⟨gb159,2,none⟩ = some (.slice A0_2 l0_2.length c0_2):=(kC_ BK159.out 2).trans rfl;have hcz22_3 : w19.cell? ⟨gb159,3,none⟩ = some (.slice A0_3 l0_3.length c0_3):=(kC_ BK159.out 3).trans rfl;have hfz22_0:=kF_ BK159.out 0;have hfz22_1:=kF_ BK159.out 1;have hfz22_2:=kF_ BK159.out 2;have hfz22_3:=kF_ BK159.out 3;have p162 : 0 ≤ (((rd_T85 l1 x11_1).f0) : Int):=oT_ (by first | (with_reducible assumption) | assumption);have q162 : ((rd_T85 l1 x11_1).f0) < (l0_1.length : Int):=oT_ (by first | (with_reducible assumption) | assumption);obtain ⟨ad162,e162,hx162_0,hx162_1,hx162_2⟩:=at_T82 HR0_1.out ((rd_T85 l1 x11_1).f0) p162 q162;(try rw [← Nbq9.out] at hx162_2);cases e162;have hn162_0 : ad162.block ≠ gb161:=nN_ (nL_ (by have:=wL_ _ _ hx162_0;first | rwa [add_block] at this | exact this) GW161.out);have hn162_1 : ad162.block ≠ gb161:=nN_ (nL_ (by have:=wL_ _ _ hx162_0;first | rwa [add_block] at this | exact this) GW161.out);replace hx162_0:=(HB.out.cell (wL_ w _ hx162_0)).trans hx162_0;replace hx162_1:=(HB.out.cell (wL_ w _ hx162_1)).trans hx162_1;replace hx162_2:=(HB.out.cell (wL_ w _ hx162_2)).trans hx162_2;replace hx162_0:=(cell_far (p:=⟨gb161,0,none⟩) (by first | (rw [add_block];exact hn162_0) | (show (Addr.add _ _).block ≠ _;rw [add_block];exact hn162_0) | exact hn162_0) (.int .i64 ((rd_T85 l1 x11_1).f0))).trans hx162_0;replace hx162_1:=(cell_far (p:=⟨gb161,0,none⟩) (by first | (rw [add_block];exact hn162_0) | (show (Addr.add _ _).block ≠ _;rw [add_block];exact hn162_0) | exact hn162_0) (.int .i64 ((rd_T85 l1 x11_1).f0))).trans hx162_1;replace hx162_2:=(cell_far (p:=⟨gb161,0,none⟩) (by first | (rw [add_block];exact hn162_0) | (show (Addr.add _ _).block ≠ _;rw [add_block];exact hn162_0) | exact hn162_0) (.int .i64 ((rd_T85 l1 x11_1).f0))).trans hx162_2;replace hx162_0:=(cell_far (p:=⟨gb161,1,none⟩) (by first | (rw [add_block];exact hn162_1) | (show (Addr.add _ _).block ≠ _;rw [add_block];exact hn162_1) | exact hn162_1) (.bool false)).trans hx162_0;replace hx162_1:=(cell_far (p:=⟨gb161,1,none⟩) (by first | (rw [add_block];exact hn162_1) | (show (Addr.add _ _).block ≠ _;rw [add_block];exact hn162_1) | exact hn162_1) (.bool false)).trans hx162_1;replace hx162_2:=(cell_far (p:=⟨gb161,1,none⟩) (by first | (rw [add_block];exact hn162_1) | (show (Addr.add _ _).block ≠ _;rw [add_block];exact hn162_1) | exact hn162_1) (.bool false)).trans hx162_2;clear hn162_0;clear hn162_1;replace p162:=eq_true p162;replace q162:=eq_true q162) | ((with_reducible refine gate_builtin (b:=.append) (xs:=#[.tmp 26,.tmp 28]) rfl ?_);at_builtin;refine Kd.R_append Kd.string (w0:=w) w.heap.size rfl (.tmp 26) (.tmp 28) 88 9 (.string ⟨#[]⟩) 16 rfl Tryd.underlying88 info9 rfl (by decide) (by omega) u5 x5_1 ((rd_T82 l0_1 ((rd_T85 l1 x11_1).f0)).f0) [.string ((rd_T82 l0_1 ((rd_T85 l1 x11_1).f0)).f0)] (fun _=>True) (fun _=>False) rfl (by first | (go_simp;done) | (go_simp;rfl)) ?aP (fun _ hk=>hk.elim) ?aF ?aO ?aB ?aS ?aL ?_;(case aP=>exact rfl);(case aB=>exact (by exact bZ_ HB));(case aF=>exact (fun _ _=>trivial));(case aO=>exact (by (with_reducible repeat (first | apply rA_ | apply rN_ | apply rD_));exact Kd.R_mono (Kd.R_far (p:=⟨gb161,1,none⟩) (Kd.R_far (p:=⟨gb161,0,none⟩) (Kd.R_types HO_5.out BK161.out (by decide)) (fun _ hk=>hk.2) (.int .i64 ((rd_T85 l1 x11_1).f0))) (fun _ hk=>hk.2) (.bool false)) (fun _ hk=>trivial)));(case aS=>exact (bS_ (by exact bZ_ HB)));(case aL=>have:=LMc18.out;omega);intro v167 w23 ho hb hg hat;rw [← Ny166.out] at ho;have n0_:=aM_ (blk_grown (g:=gb159) (o:=.cells #[.string a0_0,.slice (some ad162) l0_1.length c0_1,.slice A0_2 l0_2.length c0_2,.slice A0_3 l0_3.length c0_3] 35 (0,0)) (by exact kW_ BK159) hg (Kd.R_ne HO_5.out BK159.out (by decide)));have n1_:=aM_ (blk_grown (g:=gb161) (o:=.cells #[.int .i64 ((rd_T85 l1 x11_1).f0),.bool false] 85 (0,0)) (by (with_reducible repeat (first | refine kN_ ?_ _ | refine kD_ ?_ | refine kA_ ?_ _));refine kP_ (cs:=#[.int .i64 ((rd_T85 l1 x11_1).f0),.bool false]) ?_ 1 _ rfl;(with_reducible repeat (first | refine kN_ ?_ _ | refine kD_ ?_ | refine kA_ ?_ _));refine kP_ (cs:=#[.int .i64 0,.bool false]) ?_ 0 _ rfl;exact kZ_ BK161) hg (Kd.R_ne HO_5.out BK161.out (by decide)));have n2_:=aM_ (hb);have n3_:=aM_ (ho);clear BK159;clear BK161;clear HB;clear HO_5;have BK159:=n0_;have BK161:=n1_;have HB:=n2_;have HO168:=n3_;clear n0_ n1_ n2_ n3_;clear ho hb hg hat))
          go_roundg k1
          case measure=>have:=HK1.out;omega
          case rel=>exact ⟨(y166),(wrap64 (x11_1 + 1)),(by first | rfl | (simp;done) | (simp [*];done)),H', ⟨by have:=HK1.out;omega⟩,⟨by exact rZ_ HO168⟩,⟨by exact kZ_ BK159⟩,⟨by exact bZ_ HB⟩⟩
         ·rw [if_neg c18] at H
          exact absurd H (by simp)
       ·rw [if_neg c8] at H
        exact absurd H (by simp)
      ·rw [if_neg c7] at H
       exact absurd H (by simp)
     ·rw [if_neg c6] at H
      exact absurd H (by simp)
    ·rw [if_neg c5] at H
     exact absurd H (by simp)
   ·rw [if_neg c4] at H
    have c4b0 : decide (x11_1 < (l1.length : Int)) = false:=decide_eq_false c4
    clear c4
    replace H:=oB_ H
    obtain ⟨t169,A240,H⟩:=H
    replace H : (if t169.size + 2 ≤ 9223372036854775807 then (some (t169 ++ (⟨#[59,32]⟩ : ByteArray))) else (none)) = some r:=H
    have A24:=aM_ A240
    clear A240
    by_cases c25 : t169.size + 2 ≤ 9223372036854775807
    ·rw [if_pos c25] at H
     have c25b0:=eq_true c25
     have c25b1 : decide (t169.size + 2 ≤ 9223372036854775807) = true:=decide_eq_true c25
     try have c25b2 : (9223372036854775807 < t169.size + 2) = False:=eq_false (Nat.not_lt.2 c25)
     obtain rfl:=Option.some.inj H
     obtain ⟨Ao26,co26,eo26⟩:=Kd.R_slice HO_5.out
     subst eo26
     go_wp2_with (first | ((with_reducible refine gate_callee (f:=111) rfl ?_);refine goesL_ (some 32) rfl rfl Tryd.func111 (by kernel_rfl) rfl #[.slice Ao26 x5_1.length co26,.string (⟨#[44,32]⟩ : ByteArray)] rfl (by (try simp only [mA_,mC_,mN_]);first | done | rfl | (simp only [lD_,lT_];rfl)) ?_;(with_reducible refine (strings_Join.calls _ _ x5_1 (⟨#[44,32]⟩ : ByteArray) t169 _ ?side1 ?side2 A24.out).mono ?_);(case side1=>repeat (first | exact (Kd.R_reads' HO_5.out).2.2 | (with_reducible refine cA_ ?_ _) | (with_reducible refine cN_ ?_ _) | (with_reducible refine cD_ ?_)));(case side2=>exact (Kd.R_reads' HO_5.out).2.1);rintro e w27 ⟨rfl,hb⟩;refine ⟨_,rfl,?_⟩;have n0_:=aM_ (Kd.R_below (by exact rZ_ HO_5) hb);have n1_:=aM_ (blk_below (g:=gb159) (o:=.cells #[.string a0_0,.slice A0_1 l0_1.length c0_1,.slice A0_2 l0_2.length c0_2,.slice A0_3 l0_3.length c0_3] 35 (0,0)) (by exact kZ_ BK159) hb);have n2_:=aM_ (bT_ (by exact bZ_ HB) hb);clear HO_5;clear BK159;clear HB;have HO_5:=n0_;have BK159:=n1_;have HB:=n2_;clear n0_ n1_ n2_;(try clear hb);(try clear hb2);(try clear hk);(try clear hi)))
     go_ret
     exact ⟨by first | rfl | (simp [errW_none,errW_some] <;> rfl) | (simp [*, errW_none,errW_some] <;> rfl),by exact bZ_ HB⟩
    ·rw [if_neg c25] at H
     exact absurd H (by simp)
end Go.Proofs.YtipehkeabnfngaaDoor.PFnExactDefText
