import Derived.Test.YtllgmgpfdnofmaaZSDPFnExactSameDefx0
import Derived.Test.YtllgmgpfdnofmaaZSDPFnExactSameDefx7
namespace Go.Proofs.Ytllgmgpfdnofmaa.PFnExactSameDef
open Go.RowKit Go.Proofs.YtllgmgpfdnofmaaW.PrintWords Go.Proofs.YtllgmgpfdnofmaaW.PrintLast Go.Proofs.YtllgmgpfdnofmaaW.PrintMore Go.Proofs.Ytllgmgpfdnofmaa.Xtra
attribute [local go_sem] max2_int min2_int max_two min_two max_three min_three max_four min_four str_leq str_gtr str_geq setCell_drewN cell_set2 cell_set3   -- for this text's walks alone
set_option linter.unusedVariables false
set_option linter.unusedSimpArgs false
def laws_eqIndex.f (k : Nat) (a0_0 : ByteArray) (a0_1 : Bool) (l0_2 : List (S184)) (a1_0 : ByteArray) (a1_1 : Bool) (l1_2 : List (S184)) : Option (Bool):=if a0_0.toList = a1_0.toList then (if (a0_1 != a1_1) = true then (some false) else ((laws_eqByS.f k l0_2 l1_2).bind fun t197=>(if t197 = true then (some true) else (some false)))) else (some false)
theorem laws_eqIndex.mono : ∀ a0 a1 a2 a3 a4 a5 k,LeO (laws_eqIndex.f k a0 a1 a2 a3 a4 a5) (laws_eqIndex.f (k + 1) a0 a1 a2 a3 a4 a5):=by
 intro a0 a1 a2 a3 a4 a5 k
 unfold laws_eqIndex.f
 repeat' first
   | (with_reducible exact laws_eqByS.mono _ _ _)
   | (with_reducible exact LeO.refl _)
   | (with_reducible exact LeO.none _)
   | (with_reducible refine LeO.ite ?_ ?_)
   | (with_reducible refine LeO.bind ?_ (fun _=>?_))
   | exact laws_eqByS.mono _ _ _
   | exact LeO.none _
   | refine LeO.ite ?_ ?_
   | refine LeO.bind ?_ (fun _=>?_)
set_option maxHeartbeats 8000000 in
set_option maxRecDepth 100000 in
theorem laws_eqIndex.calls (k : Nat) (a0_0 : ByteArray) (a0_1 : Bool) (A0_2 : Option Addr) (c0_2 : Nat) (l0_2 : List (S184)) (a1_0 : ByteArray) (a1_1 : Bool) (A1_2 : Option Addr) (c1_2 : Nat) (l1_2 : List (S184)) (r : Bool) (w : World) (hr0_2 : Kd.C k184 w A0_2 l0_2.length l0_2) (hc0_2 : l0_2.length ≤ c0_2) (hr1_2 : Kd.C k184 w A1_2 l1_2.length l1_2) (hc1_2 : l1_2.length ≤ c1_2) (h : laws_eqIndex.f k a0_0 a0_1 l0_2 a1_0 a1_1 l1_2 = some r) :
  Calls Try.prog 178 #[.agg #[.string a0_0,.bool a0_1,.slice A0_2 l0_2.length c0_2],.agg #[.string a1_0,.bool a1_1,.slice A1_2 l1_2.length c1_2]] w fun e w'=>e = .returned (.bool r) ∧ Below w.heap.size w w':=by
 have hu148:=Try.underlying148
 have HR0_2:=aM_ hr0_2
 have HC0_2:=aM_ hc0_2
 clear hr0_2 hc0_2
 have HR1_2:=aM_ hr1_2
 have HC1_2:=aM_ hc1_2
 clear hr1_2 hc1_2
 have HB:=aM_ (Below.refl w.heap.size w)
 have H : (if a0_0.toList = a1_0.toList then (if (a0_1 != a1_1) = true then (some false) else ((laws_eqByS.f k l0_2 l1_2).bind fun t197=>(if t197 = true then (some true) else (some false)))) else (some false)) = some r:=h
 clear h
 by_cases c3 : a0_0.toList = a1_0.toList
 ·rw [if_pos c3] at H
  have c3b0 : (a0_0.toList == a1_0.toList) = true:=beq_iff_eq.mpr c3
  have c3b1 : (a0_0.toList != a1_0.toList) = false:=bne_eq_false_iff_eq.mpr c3
  clear c3
  by_cases c4 : (a0_1 != a1_1) = true
  ·rw [if_pos c4] at H
   have c4b0 : (a0_1 != a1_1) = true:=c4
   (try (have c4b1 : decide (a0_1 = a1_1) = false:=by simpa using c4))
   (try (have c4b2 : (a0_1 == a1_1) = false:=by simpa using c4))
   (try (have c4b3 : ¬ (a0_1 = a1_1):=by simpa using c4))
   clear c4
   obtain rfl:=Option.some.inj H
   go_enter Try.func178,Try.ntmps178
   go_wp2_with (first | ((with_reducible refine gate_dst (N:=2) rfl ?_);refine box_event ?hg (N:=2) ?hd (cs:=#[.string a0_0,.bool a0_1,.slice A0_2 l0_2.length c0_2]) (t:=148) ?hr ?_;(case hd=>rfl);(case hg=>rfl);(case hr=>first | (go_simp;done) | (go_simp;rfl));intro gb195 hg w5 hbox hb;have n0_:=aM_ (bT_ (by exact bZ_ HB) hb);have n1_:=aM_ (hbox);have n2_:=aM_ ((by rw [hg];exact (bS_ (by exact bZ_ HB)) : w.heap.size ≤ gb195));have n3_:=aM_ ((by rw [hg];exact (bS_ (by exact bZ_ HB)) : w.heap.size ≤ gb195));clear HB;have HB:=n0_;have BK195:=n1_;have GW195:=n2_;have GE195:=n3_;clear n0_ n1_ n2_ n3_ hb hbox hg) | ((with_reducible refine gate_dst (N:=3) rfl ?_);refine box_event ?hg (N:=3) ?hd (cs:=#[.string a1_0,.bool a1_1,.slice A1_2 l1_2.length c1_2]) (t:=148) ?hr ?_;(case hd=>rfl);(case hg=>rfl);(case hr=>first | (go_simp;done) | (go_simp;rfl));intro gb196 hg w6 hbox hb;have n0_:=aM_ (blk_below (g:=gb195) (o:=.cells #[.string a0_0,.bool a0_1,.slice A0_2 l0_2.length c0_2] 148 (0,0)) (by exact kZ_ BK195) hb);have n1_:=aM_ (bT_ (by exact bZ_ HB) hb);have n2_:=aM_ (hbox);have n3_:=aM_ ((by rw [hg];exact (bS_ (by exact bZ_ HB)) : w.heap.size ≤ gb196));have n4_:=aM_ ((by rw [hg];exact (bS_ (by exact bZ_ HB)) : w.heap.size ≤ gb196));have n5_:=aM_ ((by rw [hg];exact nN_ (blk_lt (g:=gb195) (o:=.cells #[.string a0_0,.bool a0_1,.slice A0_2 l0_2.length c0_2] 148 (0,0)) (by exact kZ_ BK195)) : gb195 ≠ gb196));have n6_:=aM_ ((by rw [hg];exact Nat.ne_of_gt (blk_lt (g:=gb195) (o:=.cells #[.string a0_0,.bool a0_1,.slice A0_2 l0_2.length c0_2] 148 (0,0)) (by exact kZ_ BK195)) : gb196 ≠ gb195));clear BK195 HB;have BK195:=n0_;have HB:=n1_;have BK196:=n2_;have GW196:=n3_;have GE196:=n4_;have NB195_196:=n5_;have NB196_195:=n6_;clear n0_ n1_ n2_ n3_ n4_ n5_ n6_ hb hbox hg;have hnb7:=NB195_196.out;have hnc7:=NB196_195.out;have hcz8_0 : w6.cell? ⟨gb195,0,none⟩ = some (.string a0_0):=(kC_ BK195.out 0).trans rfl;have hcz8_1 : w6.cell? ⟨gb195,1,none⟩ = some (.bool a0_1):=(kC_ BK195.out 1).trans rfl;have hcz8_2 : w6.cell? ⟨gb195,2,none⟩ = some (.slice A0_2 l0_2.length c0_2):=(kC_ BK195.out 2).trans rfl;have hfz8_0:=kF_ BK195.out 0;have hfz8_1:=kF_ BK195.out 1;have hfz8_2:=kF_ BK195.out 2;have hcz9_0 : w6.cell? ⟨gb196,0,none⟩ = some (.string a1_0):=(kC_ BK196.out 0).trans rfl;have hcz9_1 : w6.cell? ⟨gb196,1,none⟩ = some (.bool a1_1):=(kC_ BK196.out 1).trans rfl;have hcz9_2 : w6.cell? ⟨gb196,2,none⟩ = some (.slice A1_2 l1_2.length c1_2):=(kC_ BK196.out 2).trans rfl;have hfz9_0:=kF_ BK196.out 0;have hfz9_1:=kF_ BK196.out 1;have hfz9_2:=kF_ BK196.out 2))
   go_ret
   exact ⟨by first | rfl | (simp [errW_none,errW_some] <;> rfl) | (simp [*, errW_none,errW_some] <;> rfl),by exact bZ_ HB⟩
  ·rw [if_neg c4] at H
   have c4b0 : (a0_1 != a1_1) = false:=by simpa using c4
   (try (have c4b1 : decide (a0_1 = a1_1) = true:=by simpa using c4))
   (try (have c4b2 : (a0_1 == a1_1) = true:=by simpa using c4))
   clear c4
   replace H:=oB_ H
   obtain ⟨t197,A100,H⟩:=H
   replace H : (if t197 = true then (some true) else (some false)) = some r:=H
   have A10:=aM_ A100
   clear A100
   by_cases c11 : t197 = true
   ·subst c11
    have H1 : (some true) = some r:=by rw [if_pos rfl] at H;exact H
    clear H
    have H:=H1
    clear H1
    obtain rfl:=Option.some.inj H
    go_enter Try.func178,Try.ntmps178
    go_wp2_with (first | ((with_reducible refine gate_dst (N:=2) rfl ?_);refine box_event ?hg (N:=2) ?hd (cs:=#[.string a0_0,.bool a0_1,.slice A0_2 l0_2.length c0_2]) (t:=148) ?hr ?_;(case hd=>rfl);(case hg=>rfl);(case hr=>first | (go_simp;done) | (go_simp;rfl));intro gb195 hg w12 hbox hb;have n0_:=aM_ (bT_ (by exact bZ_ HB) hb);have n1_:=aM_ (hbox);have n2_:=aM_ ((by rw [hg];exact (bS_ (by exact bZ_ HB)) : w.heap.size ≤ gb195));have n3_:=aM_ ((by rw [hg];exact (bS_ (by exact bZ_ HB)) : w.heap.size ≤ gb195));clear HB;have HB:=n0_;have BK195:=n1_;have GW195:=n2_;have GE195:=n3_;clear n0_ n1_ n2_ n3_ hb hbox hg) | ((with_reducible refine gate_dst (N:=3) rfl ?_);refine box_event ?hg (N:=3) ?hd (cs:=#[.string a1_0,.bool a1_1,.slice A1_2 l1_2.length c1_2]) (t:=148) ?hr ?_;(case hd=>rfl);(case hg=>rfl);(case hr=>first | (go_simp;done) | (go_simp;rfl));intro gb196 hg w13 hbox hb;have n0_:=aM_ (blk_below (g:=gb195) (o:=.cells #[.string a0_0,.bool a0_1,.slice A0_2 l0_2.length c0_2] 148 (0,0)) (by exact kZ_ BK195) hb);have n1_:=aM_ (bT_ (by exact bZ_ HB) hb);have n2_:=aM_ (hbox);have n3_:=aM_ ((by rw [hg];exact (bS_ (by exact bZ_ HB)) : w.heap.size ≤ gb196));have n4_:=aM_ ((by rw [hg];exact (bS_ (by exact bZ_ HB)) : w.heap.size ≤ gb196));have n5_:=aM_ ((by rw [hg];exact nN_ (blk_lt (g:=gb195) (o:=.cells #[.string a0_0,.bool a0_1,.slice A0_2 l0_2.length c0_2] 148 (0,0)) (by exact kZ_ BK195)) : gb195 ≠ gb196));have n6_:=aM_ ((by rw [hg];exact Nat.ne_of_gt (blk_lt (g:=gb195) (o:=.cells #[.string a0_0,.bool a0_1,.slice A0_2 l0_2.length c0_2] 148 (0,0)) (by exact kZ_ BK195)) : gb196 ≠ gb195));clear BK195 HB;have BK195:=n0_;have HB:=n1_;have BK196:=n2_;have GW196:=n3_;have GE196:=n4_;have NB195_196:=n5_;have NB196_195:=n6_;clear n0_ n1_ n2_ n3_ n4_ n5_ n6_ hb hbox hg;have hnb14:=NB195_196.out;have hnc14:=NB196_195.out;have hcz15_0 : w13.cell? ⟨gb195,0,none⟩ = some (.string a0_0):=(kC_ BK195.out 0).trans rfl;have hcz15_1 : w13.cell? ⟨gb195,1,none⟩ = some (.bool a0_1):=(kC_ BK195.out 1).trans rfl;have hcz15_2 : w13.cell? ⟨gb195,2,none⟩ = some (.slice A0_2 l0_2.length c0_2):=(kC_ BK195.out 2).trans rfl;have hfz15_0:=kF_ BK195.out 0;have hfz15_1:=kF_ BK195.out 1;have hfz15_2:=kF_ BK195.out 2;have hcz16_0 : w13.cell? ⟨gb196,0,none⟩ = some (.string a1_0):=(kC_ BK196.out 0).trans rfl;have hcz16_1 : w13.cell? ⟨gb196,1,none⟩ = some (.bool a1_1):=(kC_ BK196.out 1).trans rfl;have hcz16_2 : w13.cell? ⟨gb196,2,none⟩ = some (.slice A1_2 l1_2.length c1_2):=(kC_ BK196.out 2).trans rfl;have hfz16_0:=kF_ BK196.out 0;have hfz16_1:=kF_ BK196.out 1;have hfz16_2:=kF_ BK196.out 2) | ((with_reducible refine gate_callee (f:=142) rfl ?_);refine goesL_ (some 19) rfl rfl Try.func142 (by kernel_rfl) rfl #[.slice A0_2 l0_2.length c0_2,.slice A1_2 l1_2.length c1_2] rfl (by (try simp only [mA_,mC_,mN_]);first | done | rfl | (simp only [lD_,lT_];rfl)) ?_;(with_reducible refine (laws_eqByS.calls k _ _ l0_2 _ _ l1_2 true _ ?side1 ?side2 ?side3 ?side4 A10.out).mono ?_);(case side1=>repeat (first | exact (Kd.C_below HR0_2.out HB.out) | (with_reducible refine cA_ ?_ _) | (with_reducible refine cN_ ?_ _) | (with_reducible refine cD_ ?_)));(case side2=>exact HC0_2.out);(case side3=>repeat (first | exact (Kd.C_below HR1_2.out HB.out) | (with_reducible refine cA_ ?_ _) | (with_reducible refine cN_ ?_ _) | (with_reducible refine cD_ ?_)));(case side4=>exact HC1_2.out);rintro e w17 ⟨rfl,hb⟩;refine ⟨_,rfl,?_⟩;have n0_:=aM_ (blk_below (g:=gb195) (o:=.cells #[.string a0_0,.bool a0_1,.slice A0_2 l0_2.length c0_2] 148 (0,0)) (by exact kZ_ BK195) hb);have n1_:=aM_ (blk_below (g:=gb196) (o:=.cells #[.string a1_0,.bool a1_1,.slice A1_2 l1_2.length c1_2] 148 (0,0)) (by exact kZ_ BK196) hb);have n2_:=aM_ (bT_ (by exact bZ_ HB) hb);clear BK195 BK196 HB;have BK195:=n0_;have BK196:=n1_;have HB:=n2_;clear n0_ n1_ n2_ hb))
    go_ret
    exact ⟨by first | rfl | (simp [errW_none,errW_some] <;> rfl) | (simp [*, errW_none,errW_some] <;> rfl),by exact bZ_ HB⟩
   ·replace c11:=Bool.eq_false_iff.mpr c11
    subst c11
    have H1 : (some false) = some r:=by rw [if_neg (show ¬ (false = true) by decide)] at H;exact H
    clear H
    have H:=H1
    clear H1
    obtain rfl:=Option.some.inj H
    go_enter Try.func178,Try.ntmps178
    go_wp2_with (first | ((with_reducible refine gate_dst (N:=2) rfl ?_);refine box_event ?hg (N:=2) ?hd (cs:=#[.string a0_0,.bool a0_1,.slice A0_2 l0_2.length c0_2]) (t:=148) ?hr ?_;(case hd=>rfl);(case hg=>rfl);(case hr=>first | (go_simp;done) | (go_simp;rfl));intro gb195 hg w18 hbox hb;have n0_:=aM_ (bT_ (by exact bZ_ HB) hb);have n1_:=aM_ (hbox);have n2_:=aM_ ((by rw [hg];exact (bS_ (by exact bZ_ HB)) : w.heap.size ≤ gb195));have n3_:=aM_ ((by rw [hg];exact (bS_ (by exact bZ_ HB)) : w.heap.size ≤ gb195));clear HB;have HB:=n0_;have BK195:=n1_;have GW195:=n2_;have GE195:=n3_;clear n0_ n1_ n2_ n3_ hb hbox hg) | ((with_reducible refine gate_dst (N:=3) rfl ?_);refine box_event ?hg (N:=3) ?hd (cs:=#[.string a1_0,.bool a1_1,.slice A1_2 l1_2.length c1_2]) (t:=148) ?hr ?_;(case hd=>rfl);(case hg=>rfl);(case hr=>first | (go_simp;done) | (go_simp;rfl));intro gb196 hg w19 hbox hb;have n0_:=aM_ (blk_below (g:=gb195) (o:=.cells #[.string a0_0,.bool a0_1,.slice A0_2 l0_2.length c0_2] 148 (0,0)) (by exact kZ_ BK195) hb);have n1_:=aM_ (bT_ (by exact bZ_ HB) hb);have n2_:=aM_ (hbox);have n3_:=aM_ ((by rw [hg];exact (bS_ (by exact bZ_ HB)) : w.heap.size ≤ gb196));have n4_:=aM_ ((by rw [hg];exact (bS_ (by exact bZ_ HB)) : w.heap.size ≤ gb196));have n5_:=aM_ ((by rw [hg];exact nN_ (blk_lt (g:=gb195) (o:=.cells #[.string a0_0,.bool a0_1,.slice A0_2 l0_2.length c0_2] 148 (0,0)) (by exact kZ_ BK195)) : gb195 ≠ gb196));have n6_:=aM_ ((by rw [hg];exact Nat.ne_of_gt (blk_lt (g:=gb195) (o:=.cells #[.string a0_0,.bool a0_1,.slice A0_2 l0_2.length c0_2] 148 (0,0)) (by exact kZ_ BK195)) : gb196 ≠ gb195));clear BK195 HB;have BK195:=n0_;have HB:=n1_;have BK196:=n2_;have GW196:=n3_;have GE196:=n4_;have NB195_196:=n5_;have NB196_195:=n6_;clear n0_ n1_ n2_ n3_ n4_ n5_ n6_ hb hbox hg;have hnb20:=NB195_196.out;have hnc20:=NB196_195.out;have hcz21_0 : w19.cell? ⟨gb195,0,none⟩ = some (.string a0_0):=(kC_ BK195.out 0).trans rfl;have hcz21_1 : w19.cell? ⟨gb195,1,none⟩ = some (.bool a0_1):=(kC_ BK195.out 1).trans rfl;have hcz21_2 : w19.cell? ⟨gb195,2,none⟩ = some (.slice A0_2 l0_2.length c0_2):=(kC_ BK195.out 2).trans rfl;have hfz21_0:=kF_ BK195.out 0;have hfz21_1:=kF_ BK195.out 1;have hfz21_2:=kF_ BK195.out 2;have hcz22_0 : w19.cell? ⟨gb196,0,none⟩ = some (.string a1_0):=(kC_ BK196.out 0).trans rfl;have hcz22_1 : w19.cell? ⟨gb196,1,none⟩ = some (.bool a1_1):=(kC_ BK196.out 1).trans rfl;have hcz22_2 : w19.cell? ⟨gb196,2,none⟩ = some (.slice A1_2 l1_2.length c1_2):=(kC_ BK196.out 2).trans rfl;have hfz22_0:=kF_ BK196.out 0;have hfz22_1:=kF_ BK196.out 1;have hfz22_2:=kF_ BK196.out 2) | ((with_reducible refine gate_callee (f:=142) rfl ?_);refine goesL_ (some 19) rfl rfl Try.func142 (by kernel_rfl) rfl #[.slice A0_2 l0_2.length c0_2,.slice A1_2 l1_2.length c1_2] rfl (by (try simp only [mA_,mC_,mN_]);first | done | rfl | (simp only [lD_,lT_];rfl)) ?_;(with_reducible refine (laws_eqByS.calls k _ _ l0_2 _ _ l1_2 false _ ?side1 ?side2 ?side3 ?side4 A10.out).mono ?_);(case side1=>repeat (first | exact (Kd.C_below HR0_2.out HB.out) | (with_reducible refine cA_ ?_ _) | (with_reducible refine cN_ ?_ _) | (with_reducible refine cD_ ?_)));(case side2=>exact HC0_2.out);(case side3=>repeat (first | exact (Kd.C_below HR1_2.out HB.out) | (with_reducible refine cA_ ?_ _) | (with_reducible refine cN_ ?_ _) | (with_reducible refine cD_ ?_)));(case side4=>exact HC1_2.out);rintro e w23 ⟨rfl,hb⟩;refine ⟨_,rfl,?_⟩;have n0_:=aM_ (blk_below (g:=gb195) (o:=.cells #[.string a0_0,.bool a0_1,.slice A0_2 l0_2.length c0_2] 148 (0,0)) (by exact kZ_ BK195) hb);have n1_:=aM_ (blk_below (g:=gb196) (o:=.cells #[.string a1_0,.bool a1_1,.slice A1_2 l1_2.length c1_2] 148 (0,0)) (by exact kZ_ BK196) hb);have n2_:=aM_ (bT_ (by exact bZ_ HB) hb);clear BK195 BK196 HB;have BK195:=n0_;have BK196:=n1_;have HB:=n2_;clear n0_ n1_ n2_ hb))
    go_ret
    exact ⟨by first | rfl | (simp [errW_none,errW_some] <;> rfl) | (simp [*, errW_none,errW_some] <;> rfl),by exact bZ_ HB⟩
 ·rw [if_neg c3] at H
  have c3b0 : (a0_0.toList == a1_0.toList) = false:=beq_eq_false_iff_ne.mpr c3
  have c3b1 : (a0_0.toList != a1_0.toList) = true:=bne_iff_ne.mpr c3
  obtain rfl:=Option.some.inj H
  go_enter Try.func178,Try.ntmps178
  go_wp2_with (first | ((with_reducible refine gate_dst (N:=2) rfl ?_);refine box_event ?hg (N:=2) ?hd (cs:=#[.string a0_0,.bool a0_1,.slice A0_2 l0_2.length c0_2]) (t:=148) ?hr ?_;(case hd=>rfl);(case hg=>rfl);(case hr=>first | (go_simp;done) | (go_simp;rfl));intro gb195 hg w24 hbox hb;have n0_:=aM_ (bT_ (by exact bZ_ HB) hb);have n1_:=aM_ (hbox);have n2_:=aM_ ((by rw [hg];exact (bS_ (by exact bZ_ HB)) : w.heap.size ≤ gb195));have n3_:=aM_ ((by rw [hg];exact (bS_ (by exact bZ_ HB)) : w.heap.size ≤ gb195));clear HB;have HB:=n0_;have BK195:=n1_;have GW195:=n2_;have GE195:=n3_;clear n0_ n1_ n2_ n3_ hb hbox hg) | ((with_reducible refine gate_dst (N:=3) rfl ?_);refine box_event ?hg (N:=3) ?hd (cs:=#[.string a1_0,.bool a1_1,.slice A1_2 l1_2.length c1_2]) (t:=148) ?hr ?_;(case hd=>rfl);(case hg=>rfl);(case hr=>first | (go_simp;done) | (go_simp;rfl));intro gb196 hg w25 hbox hb;have n0_:=aM_ (blk_below (g:=gb195) (o:=.cells #[.string a0_0,.bool a0_1,.slice A0_2 l0_2.length c0_2] 148 (0,0)) (by exact kZ_ BK195) hb);have n1_:=aM_ (bT_ (by exact bZ_ HB) hb);have n2_:=aM_ (hbox);have n3_:=aM_ ((by rw [hg];exact (bS_ (by exact bZ_ HB)) : w.heap.size ≤ gb196));have n4_:=aM_ ((by rw [hg];exact (bS_ (by exact bZ_ HB)) : w.heap.size ≤ gb196));have n5_:=aM_ ((by rw [hg];exact nN_ (blk_lt (g:=gb195) (o:=.cells #[.string a0_0,.bool a0_1,.slice A0_2 l0_2.length c0_2] 148 (0,0)) (by exact kZ_ BK195)) : gb195 ≠ gb196));have n6_:=aM_ ((by rw [hg];exact Nat.ne_of_gt (blk_lt (g:=gb195) (o:=.cells #[.string a0_0,.bool a0_1,.slice A0_2 l0_2.length c0_2] 148 (0,0)) (by exact kZ_ BK195)) : gb196 ≠ gb195));clear BK195 HB;have BK195:=n0_;have HB:=n1_;have BK196:=n2_;have GW196:=n3_;have GE196:=n4_;have NB195_196:=n5_;have NB196_195:=n6_;clear n0_ n1_ n2_ n3_ n4_ n5_ n6_ hb hbox hg;have hnb26:=NB195_196.out;have hnc26:=NB196_195.out;have hcz27_0 : w25.cell? ⟨gb195,0,none⟩ = some (.string a0_0):=(kC_ BK195.out 0).trans rfl;have hcz27_1 : w25.cell? ⟨gb195,1,none⟩ = some (.bool a0_1):=(kC_ BK195.out 1).trans rfl;have hcz27_2 : w25.cell? ⟨gb195,2,none⟩ = some (.slice A0_2 l0_2.length c0_2):=(kC_ BK195.out 2).trans rfl;have hfz27_0:=kF_ BK195.out 0;have hfz27_1:=kF_ BK195.out 1;have hfz27_2:=kF_ BK195.out 2;have hcz28_0 : w25.cell? ⟨gb196,0,none⟩ = some (.string a1_0):=(kC_ BK196.out 0).trans rfl;have hcz28_1 : w25.cell? ⟨gb196,1,none⟩ = some (.bool a1_1):=(kC_ BK196.out 1).trans rfl;have hcz28_2 : w25.cell? ⟨gb196,2,none⟩ = some (.slice A1_2 l1_2.length c1_2):=(kC_ BK196.out 2).trans rfl;have hfz28_0:=kF_ BK196.out 0;have hfz28_1:=kF_ BK196.out 1;have hfz28_2:=kF_ BK196.out 2))
  go_ret
  exact ⟨by first | rfl | (simp [errW_none,errW_some] <;> rfl) | (simp [*, errW_none,errW_some] <;> rfl),by exact bZ_ HB⟩
def laws_eqIndexS.l0 : Nat → List (S148) → List (S148) → Int → Option (Bool)
 | 0,_,_,_=>none
 | k + 1,x0,x1,x5=>if x5 < (x0.length : Int) then (if 0 ≤ x5 then (if x5 < (x1.length : Int) then ((laws_eqIndex.f k ((rd_T148 x0 x5).f0) ((rd_T148 x0 x5).f1) ((rd_T148 x0 x5).f2) ((rd_T148 x1 x5).f0) ((rd_T148 x1 x5).f1) ((rd_T148 x1 x5).f2)).bind fun t200=>(if t200 = true then (laws_eqIndexS.l0 k x0 x1 (wrap64 (x5 + 1))) else (some false))) else (none)) else (none)) else (some true)
def laws_eqIndexS.f (k : Nat) (l0 : List (S148)) (l1 : List (S148)) : Option (Bool):=if (l0.length : Int) = (l1.length : Int) then (laws_eqIndexS.l0 k l0 l1 0) else (some false)
theorem laws_eqIndexS.mono_l : ∀ k,(∀ y0 y1 y2,LeO (laws_eqIndexS.l0 k y0 y1 y2) (laws_eqIndexS.l0 (k + 1) y0 y1 y2))
 | 0=>fun _ _ _ r h=>by simp [laws_eqIndexS.l0] at h
 | k + 1=>by
  have ih0:=laws_eqIndexS.mono_l k
  ·intro y0 y1 y2
   unfold laws_eqIndexS.l0
   repeat' first
   | (with_reducible exact ih0 _ _ _)
   | (with_reducible exact laws_eqIndex.mono _ _ _ _ _ _ _)
   | (with_reducible exact LeO.refl _)
   | (with_reducible exact LeO.none _)
   | (with_reducible refine LeO.ite ?_ ?_)
   | (with_reducible refine LeO.bind ?_ (fun _=>?_))
   | exact ih0 _ _ _
   | exact laws_eqIndex.mono _ _ _ _ _ _ _
   | exact LeO.none _
   | refine LeO.ite ?_ ?_
   | refine LeO.bind ?_ (fun _=>?_)
theorem laws_eqIndexS.mono : ∀ a0 a1 k,LeO (laws_eqIndexS.f k a0 a1) (laws_eqIndexS.f (k + 1) a0 a1):=by
 intro a0 a1 k
 have ih0:=laws_eqIndexS.mono_l k
 unfold laws_eqIndexS.f
 repeat' first
   | (with_reducible exact ih0 _ _ _)
   | (with_reducible exact laws_eqIndex.mono _ _ _ _ _ _ _)
   | (with_reducible exact LeO.refl _)
   | (with_reducible exact LeO.none _)
   | (with_reducible refine LeO.ite ?_ ?_)
   | (with_reducible refine LeO.bind ?_ (fun _=>?_))
   | exact ih0 _ _ _
   | exact laws_eqIndex.mono _ _ _ _ _ _ _
   | exact LeO.none _
   | refine LeO.ite ?_ ?_
   | refine LeO.bind ?_ (fun _=>?_)
def laws_eqIndexS.T6 : Bool × List (List Nat × List Nat):=(true,[([],[]),([],[]),([0,1],[0,1]),([2],[2]),([],[]),([],[]),([4,5],[4,5]),([6],[6]),([3,7],[3,7]),([8],[8])])
def laws_eqIndexS.B6 : List Nat:=[0,0,3,7,0,0,48,112,255,511]
theorem laws_eqIndexS.tab6 : rtab .any (opsOf Try.f143 6) = laws_eqIndexS.T6:=by kernel_rfl
theorem laws_eqIndexS.bits6 : waitsOk laws_eqIndexS.T6.2 laws_eqIndexS.B6 = true:=by kernel_rfl
set_option maxHeartbeats 8000000 in
set_option maxRecDepth 100000 in
theorem laws_eqIndexS.calls (k : Nat) (A0 : Option Addr) (c0 : Nat) (l0 : List (S148)) (A1 : Option Addr) (c1 : Nat) (l1 : List (S148)) (r : Bool) (w : World) (hr0 : Kd.C k148 w A0 l0.length l0) (hc0 : l0.length ≤ c0) (hr1 : Kd.C k148 w A1 l1.length l1) (hc1 : l1.length ≤ c1) (h : laws_eqIndexS.f k l0 l1 = some r) :
  Calls Try.prog 143 #[.slice A0 l0.length c0,.slice A1 l1.length c1] w fun e w'=>e = .returned (.bool r) ∧ Below w.heap.size w w':=by
 have hu148:=Try.underlying148
 have HR0:=aM_ hr0
 have HC0:=aM_ hc0
 clear hr0 hc0
 have HR1:=aM_ hr1
 have HC1:=aM_ hc1
 clear hr1 hc1
 have HB:=aM_ (Below.refl w.heap.size w)
 have H : (if (l0.length : Int) = (l1.length : Int) then (laws_eqIndexS.l0 k l0 l1 0) else (some false)) = some r:=h
 clear h
 by_cases c3 : (l0.length : Int) = (l1.length : Int)
 ·rw [if_pos c3] at H
  have c3b0 : ((l0.length : Int) == (l1.length : Int)) = true:=beq_iff_eq.mpr c3
  have c3b1 : ((l0.length : Int) != (l1.length : Int)) = false:=bne_eq_false_iff_eq.mpr c3
  have c3b2 : (l0.length == l1.length) = true:=by first | simpa using c3 | (simp at c3 ⊢;omega)
  clear c3
  have H':=aM_ H
  clear H
  go_enter Try.func143,Try.ntmps143
  go_wp2
  (try simp only [Act.put,sI_,sS_,sZ_])
  go_loopg [5] k (fun kq v5 w'=>∃ (x5_1 : Int),v5 = .int .i64 x5_1 ∧ Aside0 (laws_eqIndexS.l0 kq l0 l1 x5_1 = some r) ∧ Aside0 (kq ≤ k) ∧ Aside0 (Below w.heap.size w w'))
  case atStart=>exact ⟨(0),(by first | rfl | (simp;done) | (simp [*];done)),H', ⟨Nat.le_refl _⟩,⟨by exact bZ_ HB⟩⟩
  case round =>
   clear H'
   clear c3b0 c3b1 c3b2
   obtain ⟨x5_1,rfl,HA,HK1,HB⟩:=hrel
   cases gk with
   | zero=>exact absurd HA.out (by simp [laws_eqIndexS.l0])
   | succ k1 =>
    have H:=HA.out
    clear HA
    simp only [laws_eqIndexS.l0] at H
    by_cases c4 : x5_1 < (l0.length : Int)
    ·rw [if_pos c4] at H
     have c4b0 : decide (x5_1 < (l0.length : Int)) = true:=decide_eq_true c4
     clear c4
     by_cases c5 : 0 ≤ x5_1
     ·rw [if_pos c5] at H
      have c5b0 : decide (0 ≤ x5_1) = true:=decide_eq_true c5
      clear c5
      by_cases c6 : x5_1 < (l1.length : Int)
      ·rw [if_pos c6] at H
       have c6b0 : decide (x5_1 < (l1.length : Int)) = true:=decide_eq_true c6
       clear c6
       replace H:=oB_ H
       obtain ⟨t200,A70,H⟩:=H
       replace H : (if t200 = true then (laws_eqIndexS.l0 k1 l0 l1 (wrap64 (x5_1 + 1))) else (some false)) = some r:=H
       have A7:=aM_ A70
       clear A70
       by_cases c8 : t200 = true
       ·subst c8
        have H1 : (laws_eqIndexS.l0 k1 l0 l1 (wrap64 (x5_1 + 1))) = some r:=by rw [if_pos rfl] at H;exact H
        clear H
        have H:=H1
        clear H1
        have H':=aM_ H
        clear H
        try go_wp2
        have n0_:=aM_ (bD_ HB.out)
        clear HB
        have HB:=n0_
        clear n0_
        have p198 : 0 ≤ (x5_1 : Int):=oT_ (by first | (with_reducible assumption) | assumption)
        have q198 : x5_1 < (l0.length : Int):=oT_ (by first | (with_reducible assumption) | assumption)
        obtain ⟨ad198,A198_2,c198_2,e198,hx198_0,hx198_1,hx198_2,hl198_2,hi198_2⟩:=at_T148 HR0.out x5_1 p198 q198
        have hw198_2:=hx198_2
        have hw198_1:=hx198_1
        have hw198_0:=hx198_0
        cases e198
        replace hx198_0:=(HB.out.cell (wL_ w _ hx198_0)).trans hx198_0
        replace hx198_1:=(HB.out.cell (wL_ w _ hx198_1)).trans hx198_1
        replace hx198_2:=(HB.out.cell (wL_ w _ hx198_2)).trans hx198_2
        have HR198_2:=aM_ hi198_2
        have HC198_2:=aM_ hl198_2
        clear hi198_2 hl198_2
        replace p198:=eq_true p198
        replace q198:=eq_true q198
        have p199 : 0 ≤ (x5_1 : Int):=oT_ (by first | (with_reducible assumption) | assumption)
        have q199 : x5_1 < (l1.length : Int):=oT_ (by first | (with_reducible assumption) | assumption)
        obtain ⟨ad199,A199_2,c199_2,e199,hx199_0,hx199_1,hx199_2,hl199_2,hi199_2⟩:=at_T148 HR1.out x5_1 p199 q199
        have hw199_2:=hx199_2
        have hw199_1:=hx199_1
        have hw199_0:=hx199_0
        cases e199
        replace hx199_0:=(HB.out.cell (wL_ w _ hx199_0)).trans hx199_0
        replace hx199_1:=(HB.out.cell (wL_ w _ hx199_1)).trans hx199_1
        replace hx199_2:=(HB.out.cell (wL_ w _ hx199_2)).trans hx199_2
        have HR199_2:=aM_ hi199_2
        have HC199_2:=aM_ hl199_2
        clear hi199_2 hl199_2
        replace p199:=eq_true p199
        replace q199:=eq_true q199
        refine start_ (n:=10) (S:=fun w'=>w'.cell? (ad198.add ((x5_1).toNat * 3)) = some (.string ((rd_T148 l0 x5_1).f0)) ∧ w'.cell? ⟨(ad198.add ((x5_1).toNat * 3)).block,(ad198.add ((x5_1).toNat * 3)).off + 1,none⟩ = some (.bool ((rd_T148 l0 x5_1).f1)) ∧ w'.cell? ⟨(ad198.add ((x5_1).toNat * 3)).block,(ad198.add ((x5_1).toNat * 3)).off + 2,none⟩ = some (.slice A198_2 ((rd_T148 l0 x5_1).f2).length c198_2) ∧ w'.cell? (ad199.add ((x5_1).toNat * 3)) = some (.string ((rd_T148 l1 x5_1).f0)) ∧ w'.cell? ⟨(ad199.add ((x5_1).toNat * 3)).block,(ad199.add ((x5_1).toNat * 3)).off + 1,none⟩ = some (.bool ((rd_T148 l1 x5_1).f1)) ∧ w'.cell? ⟨(ad199.add ((x5_1).toNat * 3)).block,(ad199.add ((x5_1).toNat * 3)).off + 2,none⟩ = some (.slice A199_2 ((rd_T148 l1 x5_1).f2).length c199_2)) (ds:=[]) (tb_ 0 10) (by kernel_rfl) rfl rfl ⟨((HB.out.cell (wL_ w _ hw198_0)).trans hw198_0),((HB.out.cell (wL_ w _ hw198_1)).trans hw198_1),((HB.out.cell (wL_ w _ hw198_2)).trans hw198_2),((HB.out.cell (wL_ w _ hw199_0)).trans hw199_0),((HB.out.cell (wL_ w _ hw199_1)).trans hw199_1),((HB.out.cell (wL_ w _ hw199_2)).trans hw199_2)⟩ (fun hHeld=>?_);refine with_tabW laws_eqIndexS.tab6 laws_eqIndexS.bits6 (fun HT_ HW_=>?_)
        generalize wr.drew = w9 at HB HR198_2 HR199_2 hx198_0 hx198_1 hx198_2 hx199_0 hx199_1 hx199_2 hHeld ⊢
        refine pure_ (i:=0) (N:=some 17) (v:=?_) (a':=?_) (tb_ 1 9) rfl rfl (any_of HT_.out (by kernel_rfl)) (fun _ _ _ h=>h) (Or.inl ⟨by rfl,?_⟩) ?_ ?_
        rotate_left
        ·intro w'
         go_simp
         with_reducible rfl
        rotate_left
        ·simp only [Act.put,sI_,sZ_,sS_,i64_w,i32_w]
         rfl
        refine pure_ (i:=1) (N:=some 18) (v:=?_) (a':=?_) (tb_ 2 8) rfl rfl (any_of HT_.out (by kernel_rfl)) (fun _ _ _ h=>h) (Or.inl ⟨by rfl,?_⟩) ?_ ?_
        rotate_left
        ·intro w'
         go_simp
         with_reducible rfl
        rotate_left
        ·simp only [Act.put,sI_,sZ_,sS_,i64_w,i32_w]
         rfl
        refine pure_ (i:=2) (N:=some 19) (v:=?_) (a':=?_) (tb_ 3 7) rfl rfl (any_of HT_.out (by kernel_rfl)) (fun _ _ _ h=>h) (Or.inl ⟨by rfl,?_⟩) ?_ ?_
        rotate_left
        ·intro w'
         go_simp
         with_reducible rfl
        rotate_left
        ·simp only [Act.put,sI_,sZ_,sS_,i64_w,i32_w]
         rfl
        refine pure_ (i:=4) (N:=some 21) (v:=?_) (a':=?_) #[true,true,true,false,true,false,false,false,false,false] rfl rfl (any_of HT_.out (by kernel_rfl)) (fun _ _ _ h=>h) (Or.inl ⟨by rfl,?_⟩) ?_ ?_
        rotate_left
        ·intro w'
         go_simp
         with_reducible rfl
        rotate_left
        ·simp only [Act.put,sI_,sZ_,sS_,i64_w,i32_w]
         rfl
        refine pure_ (i:=5) (N:=some 22) (v:=?_) (a':=?_) #[true,true,true,false,true,true,false,false,false,false] rfl rfl (any_of HT_.out (by kernel_rfl)) (fun _ _ _ h=>h) (Or.inl ⟨by rfl,?_⟩) ?_ ?_
        rotate_left
        ·intro w'
         go_simp
         with_reducible rfl
        rotate_left
        ·simp only [Act.put,sI_,sZ_,sS_,i64_w,i32_w]
         rfl
        refine pure_ (i:=6) (N:=some 23) (v:=?_) (a':=?_) #[true,true,true,false,true,true,true,false,false,false] rfl rfl (any_of HT_.out (by kernel_rfl)) (fun _ _ _ h=>h) (Or.inl ⟨by rfl,?_⟩) ?_ ?_
        rotate_left
        ·intro w'
         go_simp
         with_reducible rfl
        rotate_left
        ·simp only [Act.put,sI_,sZ_,sS_,i64_w,i32_w]
         rfl
        refine take_ (i:=3) (N:=some 20) (v:=?_) (a':=?_) (tb_ 7 3) rfl rfl (take_ofW HT_.out HW_.out (by kernel_rfl)) (fun _ _ _ h=>h) (Or.inl ⟨by rfl,?_⟩) hHeld ?_ ?_
        rotate_left
        ·rintro w' ⟨s0,s1,s2,s3,s4,s5⟩
         go_simp
         with_reducible rfl
        rotate_left
        ·simp only [Act.put,sI_,sZ_,sS_,i64_w,i32_w]
         rfl
        refine take_ (i:=7) (N:=some 24) (v:=?_) (a':=?_) (tb_ 8 2) rfl rfl (take_ofW HT_.out HW_.out (by kernel_rfl)) (fun _ _ _ h=>h) (Or.inl ⟨by rfl,?_⟩) hHeld ?_ ?_
        rotate_left
        ·rintro w' ⟨s0,s1,s2,s3,s4,s5⟩
         go_simp
         with_reducible rfl
        rotate_left
        ·simp only [Act.put,sI_,sZ_,sS_,i64_w,i32_w]
         rfl
        refine one_ (i:=8) (N:=some 25) (tb_ 9 1) rfl rfl (one_of HT_.out (by kernel_rfl)) (by decide) (fun K hK=>?_)
        refine goes_ Try.func178 (by kernel_rfl) rfl #[.agg #[.string ((rd_T148 l0 x5_1).f0),.bool ((rd_T148 l0 x5_1).f1),.slice A198_2 ((rd_T148 l0 x5_1).f2).length c198_2],.agg #[.string ((rd_T148 l1 x5_1).f0),.bool ((rd_T148 l1 x5_1).f1),.slice A199_2 ((rd_T148 l1 x5_1).f2).length c199_2]] (by rfl) rfl rfl (by (try simp only [mA_,mC_,mN_]);first | done | rfl | (simp only [lD_,lT_];rfl)) ?_
        with_reducible refine (laws_eqIndex.calls k1 ((rd_T148 l0 x5_1).f0) ((rd_T148 l0 x5_1).f1) _ _ ((rd_T148 l0 x5_1).f2) ((rd_T148 l1 x5_1).f0) ((rd_T148 l1 x5_1).f1) _ _ ((rd_T148 l1 x5_1).f2) true _ ?side1 ?side2 ?side3 ?side4 A7.out).mono ?_
        (case side1=>repeat (first | exact (Kd.C_below HR198_2.out HB.out) | (with_reducible refine cA_ ?_ _) | (with_reducible refine cN_ ?_ _) | (with_reducible refine cD_ ?_)))
        (case side2=>exact HC198_2.out)
        (case side3=>repeat (first | exact (Kd.C_below HR199_2.out HB.out) | (with_reducible refine cA_ ?_ _) | (with_reducible refine cN_ ?_ _) | (with_reducible refine cD_ ?_)))
        (case side4=>exact HC199_2.out)
        rintro e w10 ⟨rfl,hb⟩
        refine ⟨_,rfl,?_⟩
        have n0_:=aM_ (bT_ (by exact bZ_ HB) hb)
        clear HB
        have HB:=n0_
        clear n0_ hb
        skip
        skip
        skip
        refine hK.out _ _ ⟨((HB.out.cell (wL_ w _ hw198_0)).trans hw198_0),((HB.out.cell (wL_ w _ hw198_1)).trans hw198_1),((HB.out.cell (wL_ w _ hw198_2)).trans hw198_2),((HB.out.cell (wL_ w _ hw199_0)).trans hw199_0),((HB.out.cell (wL_ w _ hw199_1)).trans hw199_1),((HB.out.cell (wL_ w _ hw199_2)).trans hw199_2)⟩ (fun hHeld=>?_)
        clear hK K
        refine norm_ (a':=?_) ?_ ?_
        rotate_left
        ·show Act.put _ (some 25) _ = _
         simp only [Act.put,sI_,sZ_,sS_,i64_w,i32_w]
         rfl
        refine pure_ (i:=9) (N:=some 26) (v:=?_) (a':=?_) (tb_ 10 0) rfl rfl (any_of HT_.out (by kernel_rfl)) (fun _ _ _ h=>h) (Or.inl ⟨by rfl,?_⟩) ?_ ?_
        rotate_left
        ·intro w'
         go_simp
         with_reducible rfl
        rotate_left
        ·simp only [Act.put,sI_,sZ_,sS_,i64_w,i32_w]
         rfl
        refine done_ (done_of HT_.out (by kernel_rfl)) ?_
        try go_wp2
        go_roundg k1
        case measure=>have:=HK1.out;omega
        case rel=>exact ⟨(wrap64 (x5_1 + 1)),(by first | rfl | (simp;done) | (simp [*];done)),H', ⟨by have:=HK1.out;omega⟩,⟨by exact bZ_ HB⟩⟩
       ·replace c8:=Bool.eq_false_iff.mpr c8
        subst c8
        have H1 : (some false) = some r:=by rw [if_neg (show ¬ (false = true) by decide)] at H;exact H
        clear H
        have H:=H1
        clear H1
        obtain rfl:=Option.some.inj H
        try go_wp2
        have n0_:=aM_ (bD_ HB.out)
        clear HB
        have HB:=n0_
        clear n0_
        have p198 : 0 ≤ (x5_1 : Int):=oT_ (by first | (with_reducible assumption) | assumption)
        have q198 : x5_1 < (l0.length : Int):=oT_ (by first | (with_reducible assumption) | assumption)
        obtain ⟨ad198,A198_2,c198_2,e198,hx198_0,hx198_1,hx198_2,hl198_2,hi198_2⟩:=at_T148 HR0.out x5_1 p198 q198
        have hw198_2:=hx198_2
        have hw198_1:=hx198_1
        have hw198_0:=hx198_0
        cases e198
        replace hx198_0:=(HB.out.cell (wL_ w _ hx198_0)).trans hx198_0
        replace hx198_1:=(HB.out.cell (wL_ w _ hx198_1)).trans hx198_1
        replace hx198_2:=(HB.out.cell (wL_ w _ hx198_2)).trans hx198_2
        have HR198_2:=aM_ hi198_2
        have HC198_2:=aM_ hl198_2
        clear hi198_2 hl198_2
        replace p198:=eq_true p198
        replace q198:=eq_true q198
        have p199 : 0 ≤ (x5_1 : Int):=oT_ (by first | (with_reducible assumption) | assumption)
        have q199 : x5_1 < (l1.length : Int):=oT_ (by first | (with_reducible assumption) | assumption)
        obtain ⟨ad199,A199_2,c199_2,e199,hx199_0,hx199_1,hx199_2,hl199_2,hi199_2⟩:=at_T148 HR1.out x5_1 p199 q199
        have hw199_2:=hx199_2
        have hw199_1:=hx199_1
        have hw199_0:=hx199_0
        cases e199
        replace hx199_0:=(HB.out.cell (wL_ w _ hx199_0)).trans hx199_0
        replace hx199_1:=(HB.out.cell (wL_ w _ hx199_1)).trans hx199_1
        replace hx199_2:=(HB.out.cell (wL_ w _ hx199_2)).trans hx199_2
        have HR199_2:=aM_ hi199_2
        have HC199_2:=aM_ hl199_2
        clear hi199_2 hl199_2
        replace p199:=eq_true p199
        replace q199:=eq_true q199
        refine start_ (n:=10) (S:=fun w'=>w'.cell? (ad198.add ((x5_1).toNat * 3)) = some (.string ((rd_T148 l0 x5_1).f0)) ∧ w'.cell? ⟨(ad198.add ((x5_1).toNat * 3)).block,(ad198.add ((x5_1).toNat * 3)).off + 1,none⟩ = some (.bool ((rd_T148 l0 x5_1).f1)) ∧ w'.cell? ⟨(ad198.add ((x5_1).toNat * 3)).block,(ad198.add ((x5_1).toNat * 3)).off + 2,none⟩ = some (.slice A198_2 ((rd_T148 l0 x5_1).f2).length c198_2) ∧ w'.cell? (ad199.add ((x5_1).toNat * 3)) = some (.string ((rd_T148 l1 x5_1).f0)) ∧ w'.cell? ⟨(ad199.add ((x5_1).toNat * 3)).block,(ad199.add ((x5_1).toNat * 3)).off + 1,none⟩ = some (.bool ((rd_T148 l1 x5_1).f1)) ∧ w'.cell? ⟨(ad199.add ((x5_1).toNat * 3)).block,(ad199.add ((x5_1).toNat * 3)).off + 2,none⟩ = some (.slice A199_2 ((rd_T148 l1 x5_1).f2).length c199_2)) (ds:=[]) (tb_ 0 10) (by kernel_rfl) rfl rfl ⟨((HB.out.cell (wL_ w _ hw198_0)).trans hw198_0),((HB.out.cell (wL_ w _ hw198_1)).trans hw198_1),((HB.out.cell (wL_ w _ hw198_2)).trans hw198_2),((HB.out.cell (wL_ w _ hw199_0)).trans hw199_0),((HB.out.cell (wL_ w _ hw199_1)).trans hw199_1),((HB.out.cell (wL_ w _ hw199_2)).trans hw199_2)⟩ (fun hHeld=>?_);refine with_tabW laws_eqIndexS.tab6 laws_eqIndexS.bits6 (fun HT_ HW_=>?_)
        generalize wr.drew = w11 at HB HR198_2 HR199_2 hx198_0 hx198_1 hx198_2 hx199_0 hx199_1 hx199_2 hHeld ⊢
        refine pure_ (i:=0) (N:=some 17) (v:=?_) (a':=?_) (tb_ 1 9) rfl rfl (any_of HT_.out (by kernel_rfl)) (fun _ _ _ h=>h) (Or.inl ⟨by rfl,?_⟩) ?_ ?_
        rotate_left
        ·intro w'
         go_simp
         with_reducible rfl
        rotate_left
        ·simp only [Act.put,sI_,sZ_,sS_,i64_w,i32_w]
         rfl
        refine pure_ (i:=1) (N:=some 18) (v:=?_) (a':=?_) (tb_ 2 8) rfl rfl (any_of HT_.out (by kernel_rfl)) (fun _ _ _ h=>h) (Or.inl ⟨by rfl,?_⟩) ?_ ?_
        rotate_left
        ·intro w'
         go_simp
         with_reducible rfl
        rotate_left
        ·simp only [Act.put,sI_,sZ_,sS_,i64_w,i32_w]
         rfl
        refine pure_ (i:=2) (N:=some 19) (v:=?_) (a':=?_) (tb_ 3 7) rfl rfl (any_of HT_.out (by kernel_rfl)) (fun _ _ _ h=>h) (Or.inl ⟨by rfl,?_⟩) ?_ ?_
        rotate_left
        ·intro w'
         go_simp
         with_reducible rfl
        rotate_left
        ·simp only [Act.put,sI_,sZ_,sS_,i64_w,i32_w]
         rfl
        refine pure_ (i:=4) (N:=some 21) (v:=?_) (a':=?_) #[true,true,true,false,true,false,false,false,false,false] rfl rfl (any_of HT_.out (by kernel_rfl)) (fun _ _ _ h=>h) (Or.inl ⟨by rfl,?_⟩) ?_ ?_
        rotate_left
        ·intro w'
         go_simp
         with_reducible rfl
        rotate_left
        ·simp only [Act.put,sI_,sZ_,sS_,i64_w,i32_w]
         rfl
        refine pure_ (i:=5) (N:=some 22) (v:=?_) (a':=?_) #[true,true,true,false,true,true,false,false,false,false] rfl rfl (any_of HT_.out (by kernel_rfl)) (fun _ _ _ h=>h) (Or.inl ⟨by rfl,?_⟩) ?_ ?_
        rotate_left
        ·intro w'
         go_simp
         with_reducible rfl
        rotate_left
        ·simp only [Act.put,sI_,sZ_,sS_,i64_w,i32_w]
         rfl
        refine pure_ (i:=6) (N:=some 23) (v:=?_) (a':=?_) #[true,true,true,false,true,true,true,false,false,false] rfl rfl (any_of HT_.out (by kernel_rfl)) (fun _ _ _ h=>h) (Or.inl ⟨by rfl,?_⟩) ?_ ?_
        rotate_left
        ·intro w'
         go_simp
         with_reducible rfl
        rotate_left
        ·simp only [Act.put,sI_,sZ_,sS_,i64_w,i32_w]
         rfl
        refine take_ (i:=3) (N:=some 20) (v:=?_) (a':=?_) (tb_ 7 3) rfl rfl (take_ofW HT_.out HW_.out (by kernel_rfl)) (fun _ _ _ h=>h) (Or.inl ⟨by rfl,?_⟩) hHeld ?_ ?_
        rotate_left
        ·rintro w' ⟨s0,s1,s2,s3,s4,s5⟩
         go_simp
         with_reducible rfl
        rotate_left
        ·simp only [Act.put,sI_,sZ_,sS_,i64_w,i32_w]
         rfl
        refine take_ (i:=7) (N:=some 24) (v:=?_) (a':=?_) (tb_ 8 2) rfl rfl (take_ofW HT_.out HW_.out (by kernel_rfl)) (fun _ _ _ h=>h) (Or.inl ⟨by rfl,?_⟩) hHeld ?_ ?_
        rotate_left
        ·rintro w' ⟨s0,s1,s2,s3,s4,s5⟩
         go_simp
         with_reducible rfl
        rotate_left
        ·simp only [Act.put,sI_,sZ_,sS_,i64_w,i32_w]
         rfl
        refine one_ (i:=8) (N:=some 25) (tb_ 9 1) rfl rfl (one_of HT_.out (by kernel_rfl)) (by decide) (fun K hK=>?_)
        refine goes_ Try.func178 (by kernel_rfl) rfl #[.agg #[.string ((rd_T148 l0 x5_1).f0),.bool ((rd_T148 l0 x5_1).f1),.slice A198_2 ((rd_T148 l0 x5_1).f2).length c198_2],.agg #[.string ((rd_T148 l1 x5_1).f0),.bool ((rd_T148 l1 x5_1).f1),.slice A199_2 ((rd_T148 l1 x5_1).f2).length c199_2]] (by rfl) rfl rfl (by (try simp only [mA_,mC_,mN_]);first | done | rfl | (simp only [lD_,lT_];rfl)) ?_
        with_reducible refine (laws_eqIndex.calls k1 ((rd_T148 l0 x5_1).f0) ((rd_T148 l0 x5_1).f1) _ _ ((rd_T148 l0 x5_1).f2) ((rd_T148 l1 x5_1).f0) ((rd_T148 l1 x5_1).f1) _ _ ((rd_T148 l1 x5_1).f2) false _ ?side1 ?side2 ?side3 ?side4 A7.out).mono ?_
        (case side1=>repeat (first | exact (Kd.C_below HR198_2.out HB.out) | (with_reducible refine cA_ ?_ _) | (with_reducible refine cN_ ?_ _) | (with_reducible refine cD_ ?_)))
        (case side2=>exact HC198_2.out)
        (case side3=>repeat (first | exact (Kd.C_below HR199_2.out HB.out) | (with_reducible refine cA_ ?_ _) | (with_reducible refine cN_ ?_ _) | (with_reducible refine cD_ ?_)))
        (case side4=>exact HC199_2.out)
        rintro e w12 ⟨rfl,hb⟩
        refine ⟨_,rfl,?_⟩
        have n0_:=aM_ (bT_ (by exact bZ_ HB) hb)
        clear HB
        have HB:=n0_
        clear n0_ hb
        skip
        skip
        skip
        refine hK.out _ _ ⟨((HB.out.cell (wL_ w _ hw198_0)).trans hw198_0),((HB.out.cell (wL_ w _ hw198_1)).trans hw198_1),((HB.out.cell (wL_ w _ hw198_2)).trans hw198_2),((HB.out.cell (wL_ w _ hw199_0)).trans hw199_0),((HB.out.cell (wL_ w _ hw199_1)).trans hw199_1),((HB.out.cell (wL_ w _ hw199_2)).trans hw199_2)⟩ (fun hHeld=>?_)
        clear hK K
        refine norm_ (a':=?_) ?_ ?_
        rotate_left
        ·show Act.put _ (some 25) _ = _
         simp only [Act.put,sI_,sZ_,sS_,i64_w,i32_w]
         rfl
        refine pure_ (i:=9) (N:=some 26) (v:=?_) (a':=?_) (tb_ 10 0) rfl rfl (any_of HT_.out (by kernel_rfl)) (fun _ _ _ h=>h) (Or.inl ⟨by rfl,?_⟩) ?_ ?_
        rotate_left
        ·intro w'
         go_simp
         with_reducible rfl
        rotate_left
        ·simp only [Act.put,sI_,sZ_,sS_,i64_w,i32_w]
         rfl
        refine done_ (done_of HT_.out (by kernel_rfl)) ?_
        try go_wp2
        go_ret
        exact ⟨by first | rfl | (simp [errW_none,errW_some] <;> rfl) | (simp [*, errW_none,errW_some] <;> rfl),by exact bZ_ HB⟩
      ·rw [if_neg c6] at H
       exact absurd H (by simp)
     ·rw [if_neg c5] at H
      exact absurd H (by simp)
    ·rw [if_neg c4] at H
     have c4b0 : decide (x5_1 < (l0.length : Int)) = false:=decide_eq_false c4
     clear c4
     obtain rfl:=Option.some.inj H
     go_wp2
     go_ret
     exact ⟨by first | rfl | (simp [errW_none,errW_some] <;> rfl) | (simp [*, errW_none,errW_some] <;> rfl),by exact bZ_ HB⟩
 ·rw [if_neg c3] at H
  have c3b0 : ((l0.length : Int) == (l1.length : Int)) = false:=beq_eq_false_iff_ne.mpr c3
  have c3b1 : ((l0.length : Int) != (l1.length : Int)) = true:=bne_iff_ne.mpr c3
  have c3b2 : (l0.length == l1.length) = false:=by first | simpa using c3 | (simp at c3 ⊢;omega)
  obtain rfl:=Option.some.inj H
  go_enter Try.func143,Try.ntmps143
  go_wp2
  go_ret
  exact ⟨by first | rfl | (simp [errW_none,errW_some] <;> rfl) | (simp [*, errW_none,errW_some] <;> rfl),by exact bZ_ HB⟩
def laws_eqDef.f (k : Nat) (a0_0 : ByteArray) (l0_1 : List (S146)) (l0_2 : List (S184)) (l0_3 : List (S148)) (a1_0 : ByteArray) (l1_1 : List (S146)) (l1_2 : List (S184)) (l1_3 : List (S148)) : Option (Bool):=if a0_0.toList = a1_0.toList then ((laws_eqColS.f k l0_1 l1_1).bind fun t203=>(if t203 = true then ((laws_eqByS.f k l0_2 l1_2).bind fun t204=>(if t204 = true then ((laws_eqIndexS.f k l0_3 l1_3).bind fun t205=>(if t205 = true then (some true) else (some false))) else (some false))) else (some false))) else (some false)
theorem laws_eqDef.mono : ∀ a0 a1 a2 a3 a4 a5 a6 a7 k,LeO (laws_eqDef.f k a0 a1 a2 a3 a4 a5 a6 a7) (laws_eqDef.f (k + 1) a0 a1 a2 a3 a4 a5 a6 a7):=by
 intro a0 a1 a2 a3 a4 a5 a6 a7 k
 unfold laws_eqDef.f
 repeat' first
   | (with_reducible exact laws_eqByS.mono _ _ _)
   | (with_reducible exact laws_eqColS.mono _ _ _)
   | (with_reducible exact laws_eqIndexS.mono _ _ _)
   | (with_reducible exact LeO.refl _)
   | (with_reducible exact LeO.none _)
   | (with_reducible refine LeO.ite ?_ ?_)
   | (with_reducible refine LeO.bind ?_ (fun _=>?_))
   | exact laws_eqByS.mono _ _ _
   | exact laws_eqColS.mono _ _ _
   | exact laws_eqIndexS.mono _ _ _
   | exact LeO.none _
   | refine LeO.ite ?_ ?_
   | refine LeO.bind ?_ (fun _=>?_)
set_option maxHeartbeats 8000000 in
set_option maxRecDepth 100000 in
theorem laws_eqDef.calls (k : Nat) (a0_0 : ByteArray) (A0_1 : Option Addr) (c0_1 : Nat) (l0_1 : List (S146)) (A0_2 : Option Addr) (c0_2 : Nat) (l0_2 : List (S184)) (A0_3 : Option Addr) (c0_3 : Nat) (l0_3 : List (S148)) (a1_0 : ByteArray) (A1_1 : Option Addr) (c1_1 : Nat) (l1_1 : List (S146)) (A1_2 : Option Addr) (c1_2 : Nat) (l1_2 : List (S184)) (A1_3 : Option Addr) (c1_3 : Nat) (l1_3 : List (S148)) (r : Bool) (w : World) (hr0_1 : Kd.C k146 w A0_1 l0_1.length l0_1) (hc0_1 : l0_1.length ≤ c0_1) (hr0_2 : Kd.C k184 w A0_2 l0_2.length l0_2) (hc0_2 : l0_2.length ≤ c0_2) (hr0_3 : Kd.C k148 w A0_3 l0_3.length l0_3) (hc0_3 : l0_3.length ≤ c0_3) (hr1_1 : Kd.C k146 w A1_1 l1_1.length l1_1) (hc1_1 : l1_1.length ≤ c1_1) (hr1_2 : Kd.C k184 w A1_2 l1_2.length l1_2) (hc1_2 : l1_2.length ≤ c1_2) (hr1_3 : Kd.C k148 w A1_3 l1_3.length l1_3) (hc1_3 : l1_3.length ≤ c1_3) (h : laws_eqDef.f k a0_0 l0_1 l0_2 l0_3 a1_0 l1_1 l1_2 l1_3 = some r) :
  Calls Try.prog 65 #[.agg #[.string a0_0,.slice A0_1 l0_1.length c0_1,.slice A0_2 l0_2.length c0_2,.slice A0_3 l0_3.length c0_3],.agg #[.string a1_0,.slice A1_1 l1_1.length c1_1,.slice A1_2 l1_2.length c1_2,.slice A1_3 l1_3.length c1_3]] w fun e w'=>e = .returned (.bool r) ∧ Below w.heap.size w w':=by
 have hu87:=Try.underlying87
 have HR0_1:=aM_ hr0_1
 have HC0_1:=aM_ hc0_1
 clear hr0_1 hc0_1
 have HR0_2:=aM_ hr0_2
 have HC0_2:=aM_ hc0_2
 clear hr0_2 hc0_2
 have HR0_3:=aM_ hr0_3
 have HC0_3:=aM_ hc0_3
 clear hr0_3 hc0_3
 have HR1_1:=aM_ hr1_1
 have HC1_1:=aM_ hc1_1
 clear hr1_1 hc1_1
 have HR1_2:=aM_ hr1_2
 have HC1_2:=aM_ hc1_2
 clear hr1_2 hc1_2
 have HR1_3:=aM_ hr1_3
 have HC1_3:=aM_ hc1_3
 clear hr1_3 hc1_3
 have HB:=aM_ (Below.refl w.heap.size w)
 have H : (if a0_0.toList = a1_0.toList then ((laws_eqColS.f k l0_1 l1_1).bind fun t203=>(if t203 = true then ((laws_eqByS.f k l0_2 l1_2).bind fun t204=>(if t204 = true then ((laws_eqIndexS.f k l0_3 l1_3).bind fun t205=>(if t205 = true then (some true) else (some false))) else (some false))) else (some false))) else (some false)) = some r:=h
 clear h
 by_cases c3 : a0_0.toList = a1_0.toList
 ·rw [if_pos c3] at H
  have c3b0 : (a0_0.toList == a1_0.toList) = true:=beq_iff_eq.mpr c3
  have c3b1 : (a0_0.toList != a1_0.toList) = false:=bne_eq_false_iff_eq.mpr c3
  clear c3
  replace H:=oB_ H
  obtain ⟨t203,A40,H⟩:=H
  replace H : (if t203 = true then ((laws_eqByS.f k l0_2 l1_2).bind fun t204=>(if t204 = true then ((laws_eqIndexS.f k l0_3 l1_3).bind fun t205=>(if t205 = true then (some true) else (some false))) else (some false))) else (some false)) = some r:=H
  have A4:=aM_ A40
  clear A40
  by_cases c5 : t203 = true
  ·subst c5
   have H1 : ((laws_eqByS.f k l0_2 l1_2).bind fun t204=>(if t204 = true then ((laws_eqIndexS.f k l0_3 l1_3).bind fun t205=>(if t205 = true then (some true) else (some false))) else (some false))) = some r:=by rw [if_pos rfl] at H;exact H
   clear H
   have H:=H1
   clear H1
   replace H:=oB_ H
   obtain ⟨t204,A60,H⟩:=H
   replace H : (if t204 = true then ((laws_eqIndexS.f k l0_3 l1_3).bind fun t205=>(if t205 = true then (some true) else (some false))) else (some false)) = some r:=H
   have A6:=aM_ A60
   clear A60
   by_cases c7 : t204 = true
   ·subst c7
    have H1 : ((laws_eqIndexS.f k l0_3 l1_3).bind fun t205=>(if t205 = true then (some true) else (some false))) = some r:=by rw [if_pos rfl] at H;exact H
    clear H
    have H:=H1
    clear H1
    replace H:=oB_ H
    obtain ⟨t205,A80,H⟩:=H
    replace H : (if t205 = true then (some true) else (some false)) = some r:=H
    have A8:=aM_ A80
    clear A80
    by_cases c9 : t205 = true
    ·subst c9
     have H1 : (some true) = some r:=by rw [if_pos rfl] at H;exact H
     clear H
     have H:=H1
     clear H1
     obtain rfl:=Option.some.inj H
     go_enter Try.func65,Try.ntmps65
     go_wp2_with (first | ((with_reducible refine gate_dst (N:=2) rfl ?_);refine box_event ?hg (N:=2) ?hd (cs:=#[.string a0_0,.slice A0_1 l0_1.length c0_1,.slice A0_2 l0_2.length c0_2,.slice A0_3 l0_3.length c0_3]) (t:=87) ?hr ?_;(case hd=>rfl);(case hg=>rfl);(case hr=>first | (go_simp;done) | (go_simp;rfl));intro gb201 hg w10 hbox hb;have n0_:=aM_ (bT_ (by exact bZ_ HB) hb);have n1_:=aM_ (hbox);have n2_:=aM_ ((by rw [hg];exact (bS_ (by exact bZ_ HB)) : w.heap.size ≤ gb201));have n3_:=aM_ ((by rw [hg];exact (bS_ (by exact bZ_ HB)) : w.heap.size ≤ gb201));clear HB;have HB:=n0_;have BK201:=n1_;have GW201:=n2_;have GE201:=n3_;clear n0_ n1_ n2_ n3_ hb hbox hg) | ((with_reducible refine gate_dst (N:=3) rfl ?_);refine box_event ?hg (N:=3) ?hd (cs:=#[.string a1_0,.slice A1_1 l1_1.length c1_1,.slice A1_2 l1_2.length c1_2,.slice A1_3 l1_3.length c1_3]) (t:=87) ?hr ?_;(case hd=>rfl);(case hg=>rfl);(case hr=>first | (go_simp;done) | (go_simp;rfl));intro gb202 hg w11 hbox hb;have n0_:=aM_ (blk_below (g:=gb201) (o:=.cells #[.string a0_0,.slice A0_1 l0_1.length c0_1,.slice A0_2 l0_2.length c0_2,.slice A0_3 l0_3.length c0_3] 87 (0,0)) (by exact kZ_ BK201) hb);have n1_:=aM_ (bT_ (by exact bZ_ HB) hb);have n2_:=aM_ (hbox);have n3_:=aM_ ((by rw [hg];exact (bS_ (by exact bZ_ HB)) : w.heap.size ≤ gb202));have n4_:=aM_ ((by rw [hg];exact (bS_ (by exact bZ_ HB)) : w.heap.size ≤ gb202));have n5_:=aM_ ((by rw [hg];exact nN_ (blk_lt (g:=gb201) (o:=.cells #[.string a0_0,.slice A0_1 l0_1.length c0_1,.slice A0_2 l0_2.length c0_2,.slice A0_3 l0_3.length c0_3] 87 (0,0)) (by exact kZ_ BK201)) : gb201 ≠ gb202));have n6_:=aM_ ((by rw [hg];exact Nat.ne_of_gt (blk_lt (g:=gb201) (o:=.cells #[.string a0_0,.slice A0_1 l0_1.length c0_1,.slice A0_2 l0_2.length c0_2,.slice A0_3 l0_3.length c0_3] 87 (0,0)) (by exact kZ_ BK201)) : gb202 ≠ gb201));clear BK201 HB;have BK201:=n0_;have HB:=n1_;have BK202:=n2_;have GW202:=n3_;have GE202:=n4_;have NB201_202:=n5_;have NB202_201:=n6_;clear n0_ n1_ n2_ n3_ n4_ n5_ n6_ hb hbox hg;have hnb12:=NB201_202.out;have hnc12:=NB202_201.out;have hcz13_0 : w11.cell? ⟨gb201,0,none⟩ = some (.string a0_0):=(kC_ BK201.out 0).trans rfl;have hcz13_1 : w11.cell? ⟨gb201,1,none⟩ = some (.slice A0_1 l0_1.length c0_1):=(kC_ BK201.out 1).trans rfl;have hcz13_2 : w11.cell? ⟨gb201,2,none⟩ = some (.slice A0_2 l0_2.length c0_2):=(kC_ BK201.out 2).trans rfl;have hcz13_3 : w11.cell? ⟨gb201,3,none⟩ = some (.slice A0_3 l0_3.length c0_3):=(kC_ BK201.out 3).trans rfl;have hfz13_0:=kF_ BK201.out 0;have hfz13_1:=kF_ BK201.out 1;have hfz13_2:=kF_ BK201.out 2;have hfz13_3:=kF_ BK201.out 3;have hcz14_0 : w11.cell? ⟨gb202,0,none⟩ = some (.string a1_0):=(kC_ BK202.out 0).trans rfl;have hcz14_1 : w11.cell? ⟨gb202,1,none⟩ = some (.slice A1_1 l1_1.length c1_1):=(kC_ BK202.out 1).trans rfl;have hcz14_2 : w11.cell? ⟨gb202,2,none⟩ = some (.slice A1_2 l1_2.length c1_2):=(kC_ BK202.out 2).trans rfl;have hcz14_3 : w11.cell? ⟨gb202,3,none⟩ = some (.slice A1_3 l1_3.length c1_3):=(kC_ BK202.out 3).trans rfl;have hfz14_0:=kF_ BK202.out 0;have hfz14_1:=kF_ BK202.out 1;have hfz14_2:=kF_ BK202.out 2;have hfz14_3:=kF_ BK202.out 3) | ((with_reducible refine gate_callee (f:=141) rfl ?_);refine goesL_ (some 14) rfl rfl Try.func141 (by kernel_rfl) rfl #[.slice A0_1 l0_1.length c0_1,.slice A1_1 l1_1.length c1_1] rfl (by (try simp only [mA_,mC_,mN_]);first | done | rfl | (simp only [lD_,lT_];rfl)) ?_;(with_reducible refine (laws_eqColS.calls k _ _ l0_1 _ _ l1_1 true _ ?side1 ?side2 ?side3 ?side4 A4.out).mono ?_);(case side1=>repeat (first | exact (Kd.C_below HR0_1.out HB.out) | (with_reducible refine cA_ ?_ _) | (with_reducible refine cN_ ?_ _) | (with_reducible refine cD_ ?_)));(case side2=>exact HC0_1.out);(case side3=>repeat (first | exact (Kd.C_below HR1_1.out HB.out) | (with_reducible refine cA_ ?_ _) | (with_reducible refine cN_ ?_ _) | (with_reducible refine cD_ ?_)));(case side4=>exact HC1_1.out);rintro e w15 ⟨rfl,hb⟩;refine ⟨_,rfl,?_⟩;have n0_:=aM_ (blk_below (g:=gb201) (o:=.cells #[.string a0_0,.slice A0_1 l0_1.length c0_1,.slice A0_2 l0_2.length c0_2,.slice A0_3 l0_3.length c0_3] 87 (0,0)) (by exact kZ_ BK201) hb);have n1_:=aM_ (blk_below (g:=gb202) (o:=.cells #[.string a1_0,.slice A1_1 l1_1.length c1_1,.slice A1_2 l1_2.length c1_2,.slice A1_3 l1_3.length c1_3] 87 (0,0)) (by exact kZ_ BK202) hb);have n2_:=aM_ (bT_ (by exact bZ_ HB) hb);clear BK201 BK202 HB;have BK201:=n0_;have BK202:=n1_;have HB:=n2_;clear n0_ n1_ n2_ hb;have hcz16_0 : w15.cell? ⟨gb201,0,none⟩ = some (.string a0_0):=(kC_ BK201.out 0).trans rfl;have hcz16_1 : w15.cell? ⟨gb201,1,none⟩ = some (.slice A0_1 l0_1.length c0_1):=(kC_ BK201.out 1).trans rfl;have hcz16_2 : w15.cell? ⟨gb201,2,none⟩ = some (.slice A0_2 l0_2.length c0_2):=(kC_ BK201.out 2).trans rfl;have hcz16_3 : w15.cell? ⟨gb201,3,none⟩ = some (.slice A0_3 l0_3.length c0_3):=(kC_ BK201.out 3).trans rfl;have hfz16_0:=kF_ BK201.out 0;have hfz16_1:=kF_ BK201.out 1;have hfz16_2:=kF_ BK201.out 2;have hfz16_3:=kF_ BK201.out 3;have hcz17_0 : w15.cell? ⟨gb202,0,none⟩ = some (.string a1_0):=(kC_ BK202.out 0).trans rfl;have hcz17_1 : w15.cell? ⟨gb202,1,none⟩ = some (.slice A1_1 l1_1.length c1_1):=(kC_ BK202.out 1).trans rfl;have hcz17_2 : w15.cell? ⟨gb202,2,none⟩ = some (.slice A1_2 l1_2.length c1_2):=(kC_ BK202.out 2).trans rfl;have hcz17_3 : w15.cell? ⟨gb202,3,none⟩ = some (.slice A1_3 l1_3.length c1_3):=(kC_ BK202.out 3).trans rfl;have hfz17_0:=kF_ BK202.out 0;have hfz17_1:=kF_ BK202.out 1;have hfz17_2:=kF_ BK202.out 2;have hfz17_3:=kF_ BK202.out 3) | ((with_reducible refine gate_callee (f:=142) rfl ?_);refine goesL_ (some 20) rfl rfl Try.func142 (by kernel_rfl) rfl #[.slice A0_2 l0_2.length c0_2,.slice A1_2 l1_2.length c1_2] rfl (by (try simp only [mA_,mC_,mN_]);first | done | rfl | (simp only [lD_,lT_];rfl)) ?_;(with_reducible refine (laws_eqByS.calls k _ _ l0_2 _ _ l1_2 true _ ?side1 ?side2 ?side3 ?side4 A6.out).mono ?_);(case side1=>repeat (first | exact (Kd.C_below HR0_2.out HB.out) | (with_reducible refine cA_ ?_ _) | (with_reducible refine cN_ ?_ _) | (with_reducible refine cD_ ?_)));(case side2=>exact HC0_2.out);(case side3=>repeat (first | exact (Kd.C_below HR1_2.out HB.out) | (with_reducible refine cA_ ?_ _) | (with_reducible refine cN_ ?_ _) | (with_reducible refine cD_ ?_)));(case side4=>exact HC1_2.out);rintro e w18 ⟨rfl,hb⟩;refine ⟨_,rfl,?_⟩;have n0_:=aM_ (blk_below (g:=gb201) (o:=.cells #[.string a0_0,.slice A0_1 l0_1.length c0_1,.slice A0_2 l0_2.length c0_2,.slice A0_3 l0_3.length c0_3] 87 (0,0)) (by exact kZ_ BK201) hb);have n1_:=aM_ (blk_below (g:=gb202) (o:=.cells #[.string a1_0,.slice A1_1 l1_1.length c1_1,.slice A1_2 l1_2.length c1_2,.slice A1_3 l1_3.length c1_3] 87 (0,0)) (by exact kZ_ BK202) hb);have n2_:=aM_ (bT_ (by exact bZ_ HB) hb);clear BK201 BK202 HB;have BK201:=n0_;have BK202:=n1_;have HB:=n2_;clear n0_ n1_ n2_ hb;have hcz19_0 : w18.cell? ⟨gb201,0,none⟩ = some (.string a0_0):=(kC_ BK201.out 0).trans rfl;have hcz19_1 : w18.cell? ⟨gb201,1,none⟩ = some (.slice A0_1 l0_1.length c0_1):=(kC_ BK201.out 1).trans rfl;have hcz19_2 : w18.cell? ⟨gb201,2,none⟩ = some (.slice A0_2 l0_2.length c0_2):=(kC_ BK201.out 2).trans rfl;have hcz19_3 : w18.cell? ⟨gb201,3,none⟩ = some (.slice A0_3 l0_3.length c0_3):=(kC_ BK201.out 3).trans rfl;have hfz19_0:=kF_ BK201.out 0;have hfz19_1:=kF_ BK201.out 1;have hfz19_2:=kF_ BK201.out 2;have hfz19_3:=kF_ BK201.out 3;have hcz20_0 : w18.cell? ⟨gb202,0,none⟩ = some (.string a1_0):=(kC_ BK202.out 0).trans rfl;have hcz20_1 : w18.cell? ⟨gb202,1,none⟩ = some (.slice A1_1 l1_1.length c1_1):=(kC_ BK202.out 1).trans rfl;have hcz20_2 : w18.cell? ⟨gb202,2,none⟩ = some (.slice A1_2 l1_2.length c1_2):=(kC_ BK202.out 2).trans rfl;have hcz20_3 : w18.cell? ⟨gb202,3,none⟩ = some (.slice A1_3 l1_3.length c1_3):=(kC_ BK202.out 3).trans rfl;have hfz20_0:=kF_ BK202.out 0;have hfz20_1:=kF_ BK202.out 1;have hfz20_2:=kF_ BK202.out 2;have hfz20_3:=kF_ BK202.out 3) | ((with_reducible refine gate_callee (f:=143) rfl ?_);refine goesL_ (some 26) rfl rfl Try.func143 (by kernel_rfl) rfl #[.slice A0_3 l0_3.length c0_3,.slice A1_3 l1_3.length c1_3] rfl (by (try simp only [mA_,mC_,mN_]);first | done | rfl | (simp only [lD_,lT_];rfl)) ?_;(with_reducible refine (laws_eqIndexS.calls k _ _ l0_3 _ _ l1_3 true _ ?side1 ?side2 ?side3 ?side4 A8.out).mono ?_);(case side1=>repeat (first | exact (Kd.C_below HR0_3.out HB.out) | (with_reducible refine cA_ ?_ _) | (with_reducible refine cN_ ?_ _) | (with_reducible refine cD_ ?_)));(case side2=>exact HC0_3.out);(case side3=>repeat (first | exact (Kd.C_below HR1_3.out HB.out) | (with_reducible refine cA_ ?_ _) | (with_reducible refine cN_ ?_ _) | (with_reducible refine cD_ ?_)));(case side4=>exact HC1_3.out);rintro e w21 ⟨rfl,hb⟩;refine ⟨_,rfl,?_⟩;have n0_:=aM_ (blk_below (g:=gb201) (o:=.cells #[.string a0_0,.slice A0_1 l0_1.length c0_1,.slice A0_2 l0_2.length c0_2,.slice A0_3 l0_3.length c0_3] 87 (0,0)) (by exact kZ_ BK201) hb);have n1_:=aM_ (blk_below (g:=gb202) (o:=.cells #[.string a1_0,.slice A1_1 l1_1.length c1_1,.slice A1_2 l1_2.length c1_2,.slice A1_3 l1_3.length c1_3] 87 (0,0)) (by exact kZ_ BK202) hb);have n2_:=aM_ (bT_ (by exact bZ_ HB) hb);clear BK201 BK202 HB;have BK201:=n0_;have BK202:=n1_;have HB:=n2_;clear n0_ n1_ n2_ hb))
     go_ret
     exact ⟨by first | rfl | (simp [errW_none,errW_some] <;> rfl) | (simp [*, errW_none,errW_some] <;> rfl),by exact bZ_ HB⟩
    ·replace c9:=Bool.eq_false_iff.mpr c9
     subst c9
     have H1 : (some false) = some r:=by rw [if_neg (show ¬ (false = true) by decide)] at H;exact H
     clear H
     have H:=H1
     clear H1
     obtain rfl:=Option.some.inj H
     go_enter Try.func65,Try.ntmps65
     go_wp2_with (first | ((with_reducible refine gate_dst (N:=2) rfl ?_);refine box_event ?hg (N:=2) ?hd (cs:=#[.string a0_0,.slice A0_1 l0_1.length c0_1,.slice A0_2 l0_2.length c0_2,.slice A0_3 l0_3.length c0_3]) (t:=87) ?hr ?_;(case hd=>rfl);(case hg=>rfl);(case hr=>first | (go_simp;done) | (go_simp;rfl));intro gb201 hg w22 hbox hb;have n0_:=aM_ (bT_ (by exact bZ_ HB) hb);have n1_:=aM_ (hbox);have n2_:=aM_ ((by rw [hg];exact (bS_ (by exact bZ_ HB)) : w.heap.size ≤ gb201));have n3_:=aM_ ((by rw [hg];exact (bS_ (by exact bZ_ HB)) : w.heap.size ≤ gb201));clear HB;have HB:=n0_;have BK201:=n1_;have GW201:=n2_;have GE201:=n3_;clear n0_ n1_ n2_ n3_ hb hbox hg) | ((with_reducible refine gate_dst (N:=3) rfl ?_);refine box_event ?hg (N:=3) ?hd (cs:=#[.string a1_0,.slice A1_1 l1_1.length c1_1,.slice A1_2 l1_2.length c1_2,.slice A1_3 l1_3.length c1_3]) (t:=87) ?hr ?_;(case hd=>rfl);(case hg=>rfl);(case hr=>first | (go_simp;done) | (go_simp;rfl));intro gb202 hg w23 hbox hb;have n0_:=aM_ (blk_below (g:=gb201) (o:=.cells #[.string a0_0,.slice A0_1 l0_1.length c0_1,.slice A0_2 l0_2.length c0_2,.slice A0_3 l0_3.length c0_3] 87 (0,0)) (by exact kZ_ BK201) hb);have n1_:=aM_ (bT_ (by exact bZ_ HB) hb);have n2_:=aM_ (hbox);have n3_:=aM_ ((by rw [hg];exact (bS_ (by exact bZ_ HB)) : w.heap.size ≤ gb202));have n4_:=aM_ ((by rw [hg];exact (bS_ (by exact bZ_ HB)) : w.heap.size ≤ gb202));have n5_:=aM_ ((by rw [hg];exact nN_ (blk_lt (g:=gb201) (o:=.cells #[.string a0_0,.slice A0_1 l0_1.length c0_1,.slice A0_2 l0_2.length c0_2,.slice A0_3 l0_3.length c0_3] 87 (0,0)) (by exact kZ_ BK201)) : gb201 ≠ gb202));have n6_:=aM_ ((by rw [hg];exact Nat.ne_of_gt (blk_lt (g:=gb201) (o:=.cells #[.string a0_0,.slice A0_1 l0_1.length c0_1,.slice A0_2 l0_2.length c0_2,.slice A0_3 l0_3.length c0_3] 87 (0,0)) (by exact kZ_ BK201)) : gb202 ≠ gb201));clear BK201 HB;have BK201:=n0_;have HB:=n1_;have BK202:=n2_;have GW202:=n3_;have GE202:=n4_;have NB201_202:=n5_;have NB202_201:=n6_;clear n0_ n1_ n2_ n3_ n4_ n5_ n6_ hb hbox hg;have hnb24:=NB201_202.out;have hnc24:=NB202_201.out;have hcz25_0 : w23.cell? ⟨gb201,0,none⟩ = some (.string a0_0):=(kC_ BK201.out 0).trans rfl;have hcz25_1 : w23.cell? ⟨gb201,1,none⟩ = some (.slice A0_1 l0_1.length c0_1):=(kC_ BK201.out 1).trans rfl;have hcz25_2 : w23.cell? ⟨gb201,2,none⟩ = some (.slice A0_2 l0_2.length c0_2):=(kC_ BK201.out 2).trans rfl;have hcz25_3 : w23.cell? ⟨gb201,3,none⟩ = some (.slice A0_3 l0_3.length c0_3):=(kC_ BK201.out 3).trans rfl;have hfz25_0:=kF_ BK201.out 0;have hfz25_1:=kF_ BK201.out 1;have hfz25_2:=kF_ BK201.out 2;have hfz25_3:=kF_ BK201.out 3;have hcz26_0 : w23.cell? ⟨gb202,0,none⟩ = some (.string a1_0):=(kC_ BK202.out 0).trans rfl;have hcz26_1 : w23.cell? ⟨gb202,1,none⟩ = some (.slice A1_1 l1_1.length c1_1):=(kC_ BK202.out 1).trans rfl;have hcz26_2 : w23.cell? ⟨gb202,2,none⟩ = some (.slice A1_2 l1_2.length c1_2):=(kC_ BK202.out 2).trans rfl;have hcz26_3 : w23.cell? ⟨gb202,3,none⟩ = some (.slice A1_3 l1_3.length c1_3):=(kC_ BK202.out 3).trans rfl;have hfz26_0:=kF_ BK202.out 0;have hfz26_1:=kF_ BK202.out 1;have hfz26_2:=kF_ BK202.out 2;have hfz26_3:=kF_ BK202.out 3) | ((with_reducible refine gate_callee (f:=141) rfl ?_);refine goesL_ (some 14) rfl rfl Try.func141 (by kernel_rfl) rfl #[.slice A0_1 l0_1.length c0_1,.slice A1_1 l1_1.length c1_1] rfl (by (try simp only [mA_,mC_,mN_]);first | done | rfl | (simp only [lD_,lT_];rfl)) ?_;(with_reducible refine (laws_eqColS.calls k _ _ l0_1 _ _ l1_1 true _ ?side1 ?side2 ?side3 ?side4 A4.out).mono ?_);(case side1=>repeat (first | exact (Kd.C_below HR0_1.out HB.out) | (with_reducible refine cA_ ?_ _) | (with_reducible refine cN_ ?_ _) | (with_reducible refine cD_ ?_)));(case side2=>exact HC0_1.out);(case side3=>repeat (first | exact (Kd.C_below HR1_1.out HB.out) | (with_reducible refine cA_ ?_ _) | (with_reducible refine cN_ ?_ _) | (with_reducible refine cD_ ?_)));(case side4=>exact HC1_1.out);rintro e w27 ⟨rfl,hb⟩;refine ⟨_,rfl,?_⟩;have n0_:=aM_ (blk_below (g:=gb201) (o:=.cells #[.string a0_0,.slice A0_1 l0_1.length c0_1,.slice A0_2 l0_2.length c0_2,.slice A0_3 l0_3.length c0_3] 87 (0,0)) (by exact kZ_ BK201) hb);have n1_:=aM_ (blk_below (g:=gb202) (o:=.cells #[.string a1_0,.slice A1_1 l1_1.length c1_1,.slice A1_2 l1_2.length c1_2,.slice A1_3 l1_3.length c1_3] 87 (0,0)) (by exact kZ_ BK202) hb);have n2_:=aM_ (bT_ (by exact bZ_ HB) hb);clear BK201 BK202 HB;have BK201:=n0_;have BK202:=n1_;have HB:=n2_;clear n0_ n1_ n2_ hb;have hcz28_0 : w27.cell? ⟨gb201,0,none⟩ = some (.string a0_0):=(kC_ BK201.out 0).trans rfl;have hcz28_1 : w27.cell? ⟨gb201,1,none⟩ = some (.slice A0_1 l0_1.length c0_1):=(kC_ BK201.out 1).trans rfl;have hcz28_2 : w27.cell? ⟨gb201,2,none⟩ = some (.slice A0_2 l0_2.length c0_2):=(kC_ BK201.out 2).trans rfl;have hcz28_3 : w27.cell? ⟨gb201,3,none⟩ = some (.slice A0_3 l0_3.length c0_3):=(kC_ BK201.out 3).trans rfl;have hfz28_0:=kF_ BK201.out 0;have hfz28_1:=kF_ BK201.out 1;have hfz28_2:=kF_ BK201.out 2;have hfz28_3:=kF_ BK201.out 3;have hcz29_0 : w27.cell? ⟨gb202,0,none⟩ = some (.string a1_0):=(kC_ BK202.out 0).trans rfl;have hcz29_1 : w27.cell? ⟨gb202,1,none⟩ = some (.slice A1_1 l1_1.length c1_1):=(kC_ BK202.out 1).trans rfl;have hcz29_2 : w27.cell? ⟨gb202,2,none⟩ = some (.slice A1_2 l1_2.length c1_2):=(kC_ BK202.out 2).trans rfl;have hcz29_3 : w27.cell? ⟨gb202,3,none⟩ = some (.slice A1_3 l1_3.length c1_3):=(kC_ BK202.out 3).trans rfl;have hfz29_0:=kF_ BK202.out 0;have hfz29_1:=kF_ BK202.out 1;have hfz29_2:=kF_ BK202.out 2;have hfz29_3:=kF_ BK202.out 3) | ((with_reducible refine gate_callee (f:=142) rfl ?_);refine goesL_ (some 20) rfl rfl Try.func142 (by kernel_rfl) rfl #[.slice A0_2 l0_2.length c0_2,.slice A1_2 l1_2.length c1_2] rfl (by (try simp only [mA_,mC_,mN_]);first | done | rfl | (simp only [lD_,lT_];rfl)) ?_;(with_reducible refine (laws_eqByS.calls k _ _ l0_2 _ _ l1_2 true _ ?side1 ?side2 ?side3 ?side4 A6.out).mono ?_);(case side1=>repeat (first | exact (Kd.C_below HR0_2.out HB.out) | (with_reducible refine cA_ ?_ _) | (with_reducible refine cN_ ?_ _) | (with_reducible refine cD_ ?_)));(case side2=>exact HC0_2.out);(case side3=>repeat (first | exact (Kd.C_below HR1_2.out HB.out) | (with_reducible refine cA_ ?_ _) | (with_reducible refine cN_ ?_ _) | (with_reducible refine cD_ ?_)));(case side4=>exact HC1_2.out);rintro e w30 ⟨rfl,hb⟩;refine ⟨_,rfl,?_⟩;have n0_:=aM_ (blk_below (g:=gb201) (o:=.cells #[.string a0_0,.slice A0_1 l0_1.length c0_1,.slice A0_2 l0_2.length c0_2,.slice A0_3 l0_3.length c0_3] 87 (0,0)) (by exact kZ_ BK201) hb);have n1_:=aM_ (blk_below (g:=gb202) (o:=.cells #[.string a1_0,.slice A1_1 l1_1.length c1_1,.slice A1_2 l1_2.length c1_2,.slice A1_3 l1_3.length c1_3] 87 (0,0)) (by exact kZ_ BK202) hb);have n2_:=aM_ (bT_ (by exact bZ_ HB) hb);clear BK201 BK202 HB;have BK201:=n0_;have BK202:=n1_;have HB:=n2_;clear n0_ n1_ n2_ hb;have hcz31_0 : w30.cell? ⟨gb201,0,none⟩ = some (.string a0_0):=(kC_ BK201.out 0).trans rfl;have hcz31_1 : w30.cell? ⟨gb201,1,none⟩ = some (.slice A0_1 l0_1.length c0_1):=(kC_ BK201.out 1).trans rfl;have hcz31_2 : w30.cell? ⟨gb201,2,none⟩ = some (.slice A0_2 l0_2.length c0_2):=(kC_ BK201.out 2).trans rfl;have hcz31_3 : w30.cell? ⟨gb201,3,none⟩ = some (.slice A0_3 l0_3.length c0_3):=(kC_ BK201.out 3).trans rfl;have hfz31_0:=kF_ BK201.out 0;have hfz31_1:=kF_ BK201.out 1;have hfz31_2:=kF_ BK201.out 2;have hfz31_3:=kF_ BK201.out 3;have hcz32_0 : w30.cell? ⟨gb202,0,none⟩ = some (.string a1_0):=(kC_ BK202.out 0).trans rfl;have hcz32_1 : w30.cell? ⟨gb202,1,none⟩ = some (.slice A1_1 l1_1.length c1_1):=(kC_ BK202.out 1).trans rfl;have hcz32_2 : w30.cell? ⟨gb202,2,none⟩ = some (.slice A1_2 l1_2.length c1_2):=(kC_ BK202.out 2).trans rfl;have hcz32_3 : w30.cell? ⟨gb202,3,none⟩ = some (.slice A1_3 l1_3.length c1_3):=(kC_ BK202.out 3).trans rfl;have hfz32_0:=kF_ BK202.out 0;have hfz32_1:=kF_ BK202.out 1;have hfz32_2:=kF_ BK202.out 2;have hfz32_3:=kF_ BK202.out 3) | ((with_reducible refine gate_callee (f:=143) rfl ?_);refine goesL_ (some 26) rfl rfl Try.func143 (by kernel_rfl) rfl #[.slice A0_3 l0_3.length c0_3,.slice A1_3 l1_3.length c1_3] rfl (by (try simp only [mA_,mC_,mN_]);first | done | rfl | (simp only [lD_,lT_];rfl)) ?_;(with_reducible refine (laws_eqIndexS.calls k _ _ l0_3 _ _ l1_3 false _ ?side1 ?side2 ?side3 ?side4 A8.out).mono ?_);(case side1=>repeat (first | exact (Kd.C_below HR0_3.out HB.out) | (with_reducible refine cA_ ?_ _) | (with_reducible refine cN_ ?_ _) | (with_reducible refine cD_ ?_)));(case side2=>exact HC0_3.out);(case side3=>repeat (first | exact (Kd.C_below HR1_3.out HB.out) | (with_reducible refine cA_ ?_ _) | (with_reducible refine cN_ ?_ _) | (with_reducible refine cD_ ?_)));(case side4=>exact HC1_3.out);rintro e w33 ⟨rfl,hb⟩;refine ⟨_,rfl,?_⟩;have n0_:=aM_ (blk_below (g:=gb201) (o:=.cells #[.string a0_0,.slice A0_1 l0_1.length c0_1,.slice A0_2 l0_2.length c0_2,.slice A0_3 l0_3.length c0_3] 87 (0,0)) (by exact kZ_ BK201) hb);have n1_:=aM_ (blk_below (g:=gb202) (o:=.cells #[.string a1_0,.slice A1_1 l1_1.length c1_1,.slice A1_2 l1_2.length c1_2,.slice A1_3 l1_3.length c1_3] 87 (0,0)) (by exact kZ_ BK202) hb);have n2_:=aM_ (bT_ (by exact bZ_ HB) hb);clear BK201 BK202 HB;have BK201:=n0_;have BK202:=n1_;have HB:=n2_;clear n0_ n1_ n2_ hb))
     go_ret
     exact ⟨by first | rfl | (simp [errW_none,errW_some] <;> rfl) | (simp [*, errW_none,errW_some] <;> rfl),by exact bZ_ HB⟩
   ·replace c7:=Bool.eq_false_iff.mpr c7
    subst c7
    have H1 : (some false) = some r:=by rw [if_neg (show ¬ (false = true) by decide)] at H;exact H
    clear H
    have H:=H1
    clear H1
    obtain rfl:=Option.some.inj H
    go_enter Try.func65,Try.ntmps65
    go_wp2_with (first | ((with_reducible refine gate_dst (N:=2) rfl ?_);refine box_event ?hg (N:=2) ?hd (cs:=#[.string a0_0,.slice A0_1 l0_1.length c0_1,.slice A0_2 l0_2.length c0_2,.slice A0_3 l0_3.length c0_3]) (t:=87) ?hr ?_;(case hd=>rfl);(case hg=>rfl);(case hr=>first | (go_simp;done) | (go_simp;rfl));intro gb201 hg w34 hbox hb;have n0_:=aM_ (bT_ (by exact bZ_ HB) hb);have n1_:=aM_ (hbox);have n2_:=aM_ ((by rw [hg];exact (bS_ (by exact bZ_ HB)) : w.heap.size ≤ gb201));have n3_:=aM_ ((by rw [hg];exact (bS_ (by exact bZ_ HB)) : w.heap.size ≤ gb201));clear HB;have HB:=n0_;have BK201:=n1_;have GW201:=n2_;have GE201:=n3_;clear n0_ n1_ n2_ n3_ hb hbox hg) | ((with_reducible refine gate_dst (N:=3) rfl ?_);refine box_event ?hg (N:=3) ?hd (cs:=#[.string a1_0,.slice A1_1 l1_1.length c1_1,.slice A1_2 l1_2.length c1_2,.slice A1_3 l1_3.length c1_3]) (t:=87) ?hr ?_;(case hd=>rfl);(case hg=>rfl);(case hr=>first | (go_simp;done) | (go_simp;rfl));intro gb202 hg w35 hbox hb;have n0_:=aM_ (blk_below (g:=gb201) (o:=.cells #[.string a0_0,.slice A0_1 l0_1.length c0_1,.slice A0_2 l0_2.length c0_2,.slice A0_3 l0_3.length c0_3] 87 (0,0)) (by exact kZ_ BK201) hb);have n1_:=aM_ (bT_ (by exact bZ_ HB) hb);have n2_:=aM_ (hbox);have n3_:=aM_ ((by rw [hg];exact (bS_ (by exact bZ_ HB)) : w.heap.size ≤ gb202));have n4_:=aM_ ((by rw [hg];exact (bS_ (by exact bZ_ HB)) : w.heap.size ≤ gb202));have n5_:=aM_ ((by rw [hg];exact nN_ (blk_lt (g:=gb201) (o:=.cells #[.string a0_0,.slice A0_1 l0_1.length c0_1,.slice A0_2 l0_2.length c0_2,.slice A0_3 l0_3.length c0_3] 87 (0,0)) (by exact kZ_ BK201)) : gb201 ≠ gb202));have n6_:=aM_ ((by rw [hg];exact Nat.ne_of_gt (blk_lt (g:=gb201) (o:=.cells #[.string a0_0,.slice A0_1 l0_1.length c0_1,.slice A0_2 l0_2.length c0_2,.slice A0_3 l0_3.length c0_3] 87 (0,0)) (by exact kZ_ BK201)) : gb202 ≠ gb201));clear BK201 HB;have BK201:=n0_;have HB:=n1_;have BK202:=n2_;have GW202:=n3_;have GE202:=n4_;have NB201_202:=n5_;have NB202_201:=n6_;clear n0_ n1_ n2_ n3_ n4_ n5_ n6_ hb hbox hg;have hnb36:=NB201_202.out;have hnc36:=NB202_201.out;have hcz37_0 : w35.cell? ⟨gb201,0,none⟩ = some (.string a0_0):=(kC_ BK201.out 0).trans rfl;have hcz37_1 : w35.cell? ⟨gb201,1,none⟩ = some (.slice A0_1 l0_1.length c0_1):=(kC_ BK201.out 1).trans rfl;have hcz37_2 : w35.cell? ⟨gb201,2,none⟩ = some (.slice A0_2 l0_2.length c0_2):=(kC_ BK201.out 2).trans rfl;have hcz37_3 : w35.cell? ⟨gb201,3,none⟩ = some (.slice A0_3 l0_3.length c0_3):=(kC_ BK201.out 3).trans rfl;have hfz37_0:=kF_ BK201.out 0;have hfz37_1:=kF_ BK201.out 1;have hfz37_2:=kF_ BK201.out 2;have hfz37_3:=kF_ BK201.out 3;have hcz38_0 : w35.cell? ⟨gb202,0,none⟩ = some (.string a1_0):=(kC_ BK202.out 0).trans rfl;have hcz38_1 : w35.cell? ⟨gb202,1,none⟩ = some (.slice A1_1 l1_1.length c1_1):=(kC_ BK202.out 1).trans rfl;have hcz38_2 : w35.cell? ⟨gb202,2,none⟩ = some (.slice A1_2 l1_2.length c1_2):=(kC_ BK202.out 2).trans rfl;have hcz38_3 : w35.cell? ⟨gb202,3,none⟩ = some (.slice A1_3 l1_3.length c1_3):=(kC_ BK202.out 3).trans rfl;have hfz38_0:=kF_ BK202.out 0;have hfz38_1:=kF_ BK202.out 1;have hfz38_2:=kF_ BK202.out 2;have hfz38_3:=kF_ BK202.out 3) | ((with_reducible refine gate_callee (f:=141) rfl ?_);refine goesL_ (some 14) rfl rfl Try.func141 (by kernel_rfl) rfl #[.slice A0_1 l0_1.length c0_1,.slice A1_1 l1_1.length c1_1] rfl (by (try simp only [mA_,mC_,mN_]);first | done | rfl | (simp only [lD_,lT_];rfl)) ?_;(with_reducible refine (laws_eqColS.calls k _ _ l0_1 _ _ l1_1 true _ ?side1 ?side2 ?side3 ?side4 A4.out).mono ?_);(case side1=>repeat (first | exact (Kd.C_below HR0_1.out HB.out) | (with_reducible refine cA_ ?_ _) | (with_reducible refine cN_ ?_ _) | (with_reducible refine cD_ ?_)));(case side2=>exact HC0_1.out);(case side3=>repeat (first | exact (Kd.C_below HR1_1.out HB.out) | (with_reducible refine cA_ ?_ _) | (with_reducible refine cN_ ?_ _) | (with_reducible refine cD_ ?_)));(case side4=>exact HC1_1.out);rintro e w39 ⟨rfl,hb⟩;refine ⟨_,rfl,?_⟩;have n0_:=aM_ (blk_below (g:=gb201) (o:=.cells #[.string a0_0,.slice A0_1 l0_1.length c0_1,.slice A0_2 l0_2.length c0_2,.slice A0_3 l0_3.length c0_3] 87 (0,0)) (by exact kZ_ BK201) hb);have n1_:=aM_ (blk_below (g:=gb202) (o:=.cells #[.string a1_0,.slice A1_1 l1_1.length c1_1,.slice A1_2 l1_2.length c1_2,.slice A1_3 l1_3.length c1_3] 87 (0,0)) (by exact kZ_ BK202) hb);have n2_:=aM_ (bT_ (by exact bZ_ HB) hb);clear BK201 BK202 HB;have BK201:=n0_;have BK202:=n1_;have HB:=n2_;clear n0_ n1_ n2_ hb;have hcz40_0 : w39.cell? ⟨gb201,0,none⟩ = some (.string a0_0):=(kC_ BK201.out 0).trans rfl;have hcz40_1 : w39.cell? ⟨gb201,1,none⟩ = some (.slice A0_1 l0_1.length c0_1):=(kC_ BK201.out 1).trans rfl;have hcz40_2 : w39.cell? ⟨gb201,2,none⟩ = some (.slice A0_2 l0_2.length c0_2):=(kC_ BK201.out 2).trans rfl;have hcz40_3 : w39.cell? ⟨gb201,3,none⟩ = some (.slice A0_3 l0_3.length c0_3):=(kC_ BK201.out 3).trans rfl;have hfz40_0:=kF_ BK201.out 0;have hfz40_1:=kF_ BK201.out 1;have hfz40_2:=kF_ BK201.out 2;have hfz40_3:=kF_ BK201.out 3;have hcz41_0 : w39.cell? ⟨gb202,0,none⟩ = some (.string a1_0):=(kC_ BK202.out 0).trans rfl;have hcz41_1 : w39.cell? ⟨gb202,1,none⟩ = some (.slice A1_1 l1_1.length c1_1):=(kC_ BK202.out 1).trans rfl;have hcz41_2 : w39.cell? ⟨gb202,2,none⟩ = some (.slice A1_2 l1_2.length c1_2):=(kC_ BK202.out 2).trans rfl;have hcz41_3 : w39.cell? ⟨gb202,3,none⟩ = some (.slice A1_3 l1_3.length c1_3):=(kC_ BK202.out 3).trans rfl;have hfz41_0:=kF_ BK202.out 0;have hfz41_1:=kF_ BK202.out 1;have hfz41_2:=kF_ BK202.out 2;have hfz41_3:=kF_ BK202.out 3) | ((with_reducible refine gate_callee (f:=142) rfl ?_);refine goesL_ (some 20) rfl rfl Try.func142 (by kernel_rfl) rfl #[.slice A0_2 l0_2.length c0_2,.slice A1_2 l1_2.length c1_2] rfl (by (try simp only [mA_,mC_,mN_]);first | done | rfl | (simp only [lD_,lT_];rfl)) ?_;(with_reducible refine (laws_eqByS.calls k _ _ l0_2 _ _ l1_2 false _ ?side1 ?side2 ?side3 ?side4 A6.out).mono ?_);(case side1=>repeat (first | exact (Kd.C_below HR0_2.out HB.out) | (with_reducible refine cA_ ?_ _) | (with_reducible refine cN_ ?_ _) | (with_reducible refine cD_ ?_)));(case side2=>exact HC0_2.out);(case side3=>repeat (first | exact (Kd.C_below HR1_2.out HB.out) | (with_reducible refine cA_ ?_ _) | (with_reducible refine cN_ ?_ _) | (with_reducible refine cD_ ?_)));(case side4=>exact HC1_2.out);rintro e w42 ⟨rfl,hb⟩;refine ⟨_,rfl,?_⟩;have n0_:=aM_ (blk_below (g:=gb201) (o:=.cells #[.string a0_0,.slice A0_1 l0_1.length c0_1,.slice A0_2 l0_2.length c0_2,.slice A0_3 l0_3.length c0_3] 87 (0,0)) (by exact kZ_ BK201) hb);have n1_:=aM_ (blk_below (g:=gb202) (o:=.cells #[.string a1_0,.slice A1_1 l1_1.length c1_1,.slice A1_2 l1_2.length c1_2,.slice A1_3 l1_3.length c1_3] 87 (0,0)) (by exact kZ_ BK202) hb);have n2_:=aM_ (bT_ (by exact bZ_ HB) hb);clear BK201 BK202 HB;have BK201:=n0_;have BK202:=n1_;have HB:=n2_;clear n0_ n1_ n2_ hb))
    go_ret
    exact ⟨by first | rfl | (simp [errW_none,errW_some] <;> rfl) | (simp [*, errW_none,errW_some] <;> rfl),by exact bZ_ HB⟩
  ·replace c5:=Bool.eq_false_iff.mpr c5
   subst c5
   have H1 : (some false) = some r:=by rw [if_neg (show ¬ (false = true) by decide)] at H;exact H
   clear H
   have H:=H1
   clear H1
   obtain rfl:=Option.some.inj H
   go_enter Try.func65,Try.ntmps65
   go_wp2_with (first | ((with_reducible refine gate_dst (N:=2) rfl ?_);refine box_event ?hg (N:=2) ?hd (cs:=#[.string a0_0,.slice A0_1 l0_1.length c0_1,.slice A0_2 l0_2.length c0_2,.slice A0_3 l0_3.length c0_3]) (t:=87) ?hr ?_;(case hd=>rfl);(case hg=>rfl);(case hr=>first | (go_simp;done) | (go_simp;rfl));intro gb201 hg w43 hbox hb;have n0_:=aM_ (bT_ (by exact bZ_ HB) hb);have n1_:=aM_ (hbox);have n2_:=aM_ ((by rw [hg];exact (bS_ (by exact bZ_ HB)) : w.heap.size ≤ gb201));have n3_:=aM_ ((by rw [hg];exact (bS_ (by exact bZ_ HB)) : w.heap.size ≤ gb201));clear HB;have HB:=n0_;have BK201:=n1_;have GW201:=n2_;have GE201:=n3_;clear n0_ n1_ n2_ n3_ hb hbox hg) | ((with_reducible refine gate_dst (N:=3) rfl ?_);refine box_event ?hg (N:=3) ?hd (cs:=#[.string a1_0,.slice A1_1 l1_1.length c1_1,.slice A1_2 l1_2.length c1_2,.slice A1_3 l1_3.length c1_3]) (t:=87) ?hr ?_;(case hd=>rfl);(case hg=>rfl);(case hr=>first | (go_simp;done) | (go_simp;rfl));intro gb202 hg w44 hbox hb;have n0_:=aM_ (blk_below (g:=gb201) (o:=.cells #[.string a0_0,.slice A0_1 l0_1.length c0_1,.slice A0_2 l0_2.length c0_2,.slice A0_3 l0_3.length c0_3] 87 (0,0)) (by exact kZ_ BK201) hb);have n1_:=aM_ (bT_ (by exact bZ_ HB) hb);have n2_:=aM_ (hbox);have n3_:=aM_ ((by rw [hg];exact (bS_ (by exact bZ_ HB)) : w.heap.size ≤ gb202));have n4_:=aM_ ((by rw [hg];exact (bS_ (by exact bZ_ HB)) : w.heap.size ≤ gb202));have n5_:=aM_ ((by rw [hg];exact nN_ (blk_lt (g:=gb201) (o:=.cells #[.string a0_0,.slice A0_1 l0_1.length c0_1,.slice A0_2 l0_2.length c0_2,.slice A0_3 l0_3.length c0_3] 87 (0,0)) (by exact kZ_ BK201)) : gb201 ≠ gb202));have n6_:=aM_ ((by rw [hg];exact Nat.ne_of_gt (blk_lt (g:=gb201) (o:=.cells #[.string a0_0,.slice A0_1 l0_1.length c0_1,.slice A0_2 l0_2.length c0_2,.slice A0_3 l0_3.length c0_3] 87 (0,0)) (by exact kZ_ BK201)) : gb202 ≠ gb201));clear BK201 HB;have BK201:=n0_;have HB:=n1_;have BK202:=n2_;have GW202:=n3_;have GE202:=n4_;have NB201_202:=n5_;have NB202_201:=n6_;clear n0_ n1_ n2_ n3_ n4_ n5_ n6_ hb hbox hg;have hnb45:=NB201_202.out;have hnc45:=NB202_201.out;have hcz46_0 : w44.cell? ⟨gb201,0,none⟩ = some (.string a0_0):=(kC_ BK201.out 0).trans rfl;have hcz46_1 : w44.cell? ⟨gb201,1,none⟩ = some (.slice A0_1 l0_1.length c0_1):=(kC_ BK201.out 1).trans rfl;have hcz46_2 : w44.cell? ⟨gb201,2,none⟩ = some (.slice A0_2 l0_2.length c0_2):=(kC_ BK201.out 2).trans rfl;have hcz46_3 : w44.cell? ⟨gb201,3,none⟩ = some (.slice A0_3 l0_3.length c0_3):=(kC_ BK201.out 3).trans rfl;have hfz46_0:=kF_ BK201.out 0;have hfz46_1:=kF_ BK201.out 1;have hfz46_2:=kF_ BK201.out 2;have hfz46_3:=kF_ BK201.out 3;have hcz47_0 : w44.cell? ⟨gb202,0,none⟩ = some (.string a1_0):=(kC_ BK202.out 0).trans rfl;have hcz47_1 : w44.cell? ⟨gb202,1,none⟩ = some (.slice A1_1 l1_1.length c1_1):=(kC_ BK202.out 1).trans rfl;have hcz47_2 : w44.cell? ⟨gb202,2,none⟩ = some (.slice A1_2 l1_2.length c1_2):=(kC_ BK202.out 2).trans rfl;have hcz47_3 : w44.cell? ⟨gb202,3,none⟩ = some (.slice A1_3 l1_3.length c1_3):=(kC_ BK202.out 3).trans rfl;have hfz47_0:=kF_ BK202.out 0;have hfz47_1:=kF_ BK202.out 1;have hfz47_2:=kF_ BK202.out 2;have hfz47_3:=kF_ BK202.out 3) | ((with_reducible refine gate_callee (f:=141) rfl ?_);refine goesL_ (some 14) rfl rfl Try.func141 (by kernel_rfl) rfl #[.slice A0_1 l0_1.length c0_1,.slice A1_1 l1_1.length c1_1] rfl (by (try simp only [mA_,mC_,mN_]);first | done | rfl | (simp only [lD_,lT_];rfl)) ?_;(with_reducible refine (laws_eqColS.calls k _ _ l0_1 _ _ l1_1 false _ ?side1 ?side2 ?side3 ?side4 A4.out).mono ?_);(case side1=>repeat (first | exact (Kd.C_below HR0_1.out HB.out) | (with_reducible refine cA_ ?_ _) | (with_reducible refine cN_ ?_ _) | (with_reducible refine cD_ ?_)));(case side2=>exact HC0_1.out);(case side3=>repeat (first | exact (Kd.C_below HR1_1.out HB.out) | (with_reducible refine cA_ ?_ _) | (with_reducible refine cN_ ?_ _) | (with_reducible refine cD_ ?_)));(case side4=>exact HC1_1.out);rintro e w48 ⟨rfl,hb⟩;refine ⟨_,rfl,?_⟩;have n0_:=aM_ (blk_below (g:=gb201) (o:=.cells #[.string a0_0,.slice A0_1 l0_1.length c0_1,.slice A0_2 l0_2.length c0_2,.slice A0_3 l0_3.length c0_3] 87 (0,0)) (by exact kZ_ BK201) hb);have n1_:=aM_ (blk_below (g:=gb202) (o:=.cells #[.string a1_0,.slice A1_1 l1_1.length c1_1,.slice A1_2 l1_2.length c1_2,.slice A1_3 l1_3.length c1_3] 87 (0,0)) (by exact kZ_ BK202) hb);have n2_:=aM_ (bT_ (by exact bZ_ HB) hb);clear BK201 BK202 HB;have BK201:=n0_;have BK202:=n1_;have HB:=n2_;clear n0_ n1_ n2_ hb))
   go_ret
   exact ⟨by first | rfl | (simp [errW_none,errW_some] <;> rfl) | (simp [*, errW_none,errW_some] <;> rfl),by exact bZ_ HB⟩
 ·rw [if_neg c3] at H
  have c3b0 : (a0_0.toList == a1_0.toList) = false:=beq_eq_false_iff_ne.mpr c3
  have c3b1 : (a0_0.toList != a1_0.toList) = true:=bne_iff_ne.mpr c3
  obtain rfl:=Option.some.inj H
  go_enter Try.func65,Try.ntmps65
  go_wp2_with (first | ((with_reducible refine gate_dst (N:=2) rfl ?_);refine box_event ?hg (N:=2) ?hd (cs:=#[.string a0_0,.slice A0_1 l0_1.length c0_1,.slice A0_2 l0_2.length c0_2,.slice A0_3 l0_3.length c0_3]) (t:=87) ?hr ?_;(case hd=>rfl);(case hg=>rfl);(case hr=>first | (go_simp;done) | (go_simp;rfl));intro gb201 hg w49 hbox hb;have n0_:=aM_ (bT_ (by exact bZ_ HB) hb);have n1_:=aM_ (hbox);have n2_:=aM_ ((by rw [hg];exact (bS_ (by exact bZ_ HB)) : w.heap.size ≤ gb201));have n3_:=aM_ ((by rw [hg];exact (bS_ (by exact bZ_ HB)) : w.heap.size ≤ gb201));clear HB;have HB:=n0_;have BK201:=n1_;have GW201:=n2_;have GE201:=n3_;clear n0_ n1_ n2_ n3_ hb hbox hg) | ((with_reducible refine gate_dst (N:=3) rfl ?_);refine box_event ?hg (N:=3) ?hd (cs:=#[.string a1_0,.slice A1_1 l1_1.length c1_1,.slice A1_2 l1_2.length c1_2,.slice A1_3 l1_3.length c1_3]) (t:=87) ?hr ?_;(case hd=>rfl);(case hg=>rfl);(case hr=>first | (go_simp;done) | (go_simp;rfl));intro gb202 hg w50 hbox hb;have n0_:=aM_ (blk_below (g:=gb201) (o:=.cells #[.string a0_0,.slice A0_1 l0_1.length c0_1,.slice A0_2 l0_2.length c0_2,.slice A0_3 l0_3.length c0_3] 87 (0,0)) (by exact kZ_ BK201) hb);have n1_:=aM_ (bT_ (by exact bZ_ HB) hb);have n2_:=aM_ (hbox);have n3_:=aM_ ((by rw [hg];exact (bS_ (by exact bZ_ HB)) : w.heap.size ≤ gb202));have n4_:=aM_ ((by rw [hg];exact (bS_ (by exact bZ_ HB)) : w.heap.size ≤ gb202));have n5_:=aM_ ((by rw [hg];exact nN_ (blk_lt (g:=gb201) (o:=.cells #[.string a0_0,.slice A0_1 l0_1.length c0_1,.slice A0_2 l0_2.length c0_2,.slice A0_3 l0_3.length c0_3] 87 (0,0)) (by exact kZ_ BK201)) : gb201 ≠ gb202));have n6_:=aM_ ((by rw [hg];exact Nat.ne_of_gt (blk_lt (g:=gb201) (o:=.cells #[.string a0_0,.slice A0_1 l0_1.length c0_1,.slice A0_2 l0_2.length c0_2,.slice A0_3 l0_3.length c0_3] 87 (0,0)) (by exact kZ_ BK201)) : gb202 ≠ gb201));clear BK201 HB;have BK201:=n0_;have HB:=n1_;have BK202:=n2_;have GW202:=n3_;have GE202:=n4_;have NB201_202:=n5_;have NB202_201:=n6_;clear n0_ n1_ n2_ n3_ n4_ n5_ n6_ hb hbox hg;have hnb51:=NB201_202.out;have hnc51:=NB202_201.out;have hcz52_0 : w50.cell? ⟨gb201,0,none⟩ = some (.string a0_0):=(kC_ BK201.out 0).trans rfl;have hcz52_1 : w50.cell? ⟨gb201,1,none⟩ = some (.slice A0_1 l0_1.length c0_1):=(kC_ BK201.out 1).trans rfl;have hcz52_2 : w50.cell? ⟨gb201,2,none⟩ = some (.slice A0_2 l0_2.length c0_2):=(kC_ BK201.out 2).trans rfl;have hcz52_3 : w50.cell? ⟨gb201,3,none⟩ = some (.slice A0_3 l0_3.length c0_3):=(kC_ BK201.out 3).trans rfl;have hfz52_0:=kF_ BK201.out 0;have hfz52_1:=kF_ BK201.out 1;have hfz52_2:=kF_ BK201.out 2;have hfz52_3:=kF_ BK201.out 3;have hcz53_0 : w50.cell? ⟨gb202,0,none⟩ = some (.string a1_0):=(kC_ BK202.out 0).trans rfl;have hcz53_1 : w50.cell? ⟨gb202,1,none⟩ = some (.slice A1_1 l1_1.length c1_1):=(kC_ BK202.out 1).trans rfl;have hcz53_2 : w50.cell? ⟨gb202,2,none⟩ = some (.slice A1_2 l1_2.length c1_2):=(kC_ BK202.out 2).trans rfl;have hcz53_3 : w50.cell? ⟨gb202,3,none⟩ = some (.slice A1_3 l1_3.length c1_3):=(kC_ BK202.out 3).trans rfl;have hfz53_0:=kF_ BK202.out 0;have hfz53_1:=kF_ BK202.out 1;have hfz53_2:=kF_ BK202.out 2;have hfz53_3:=kF_ BK202.out 3))
  go_ret
  exact ⟨by first | rfl | (simp [errW_none,errW_some] <;> rfl) | (simp [*, errW_none,errW_some] <;> rfl),by exact bZ_ HB⟩
end Go.Proofs.Ytllgmgpfdnofmaa.PFnExactSameDef
