import Derived.Test.YtllgmgpfdnofmaaZSDPFnExactSameDefx0
namespace Go.Proofs.Ytllgmgpfdnofmaa.PFnExactSameDef
open Go.RowKit Go.Proofs.YtllgmgpfdnofmaaW.PrintWords Go.Proofs.YtllgmgpfdnofmaaW.PrintLast Go.Proofs.YtllgmgpfdnofmaaW.PrintMore Go.Proofs.Ytllgmgpfdnofmaa.Xtra
attribute [local go_sem] max2_int min2_int max_two min_two max_three min_three max_four min_four str_leq str_gtr str_geq setCell_drewN cell_set2 cell_set3   -- for this text's walks alone
set_option linter.unusedVariables false
set_option linter.unusedSimpArgs false
def laws_eqCol.f (a0_0 : ByteArray) (a0_1 : Int) (a0_2 : Bool) (a1_0 : ByteArray) (a1_1 : Int) (a1_2 : Bool) : Option (Bool):=if a0_0.toList = a1_0.toList then (if a0_1 = a1_1 then (if (a0_2 != a1_2) = true then (some false) else (some true)) else (some false)) else (some false)
set_option maxHeartbeats 8000000 in
set_option maxRecDepth 100000 in
theorem laws_eqCol.calls (a0_0 : ByteArray) (a0_1 : Int) (a0_2 : Bool) (a1_0 : ByteArray) (a1_1 : Int) (a1_2 : Bool) (r : Bool) (w : World) (h : laws_eqCol.f a0_0 a0_1 a0_2 a1_0 a1_1 a1_2 = some r) :
  Calls Try.prog 176 #[.agg #[.string a0_0,.int .i64 a0_1,.bool a0_2],.agg #[.string a1_0,.int .i64 a1_1,.bool a1_2]] w fun e w'=>e = .returned (.bool r) ∧ Below w.heap.size w w':=by
 have hu146:=Try.underlying146
 have HB:=aM_ (Below.refl w.heap.size w)
 have H : (if a0_0.toList = a1_0.toList then (if a0_1 = a1_1 then (if (a0_2 != a1_2) = true then (some false) else (some true)) else (some false)) else (some false)) = some r:=h
 clear h
 by_cases c3 : a0_0.toList = a1_0.toList
 ·rw [if_pos c3] at H
  have c3b0 : (a0_0.toList == a1_0.toList) = true:=beq_iff_eq.mpr c3
  have c3b1 : (a0_0.toList != a1_0.toList) = false:=bne_eq_false_iff_eq.mpr c3
  clear c3
  by_cases c4 : a0_1 = a1_1
  ·rw [if_pos c4] at H
   have c4b0 : (a0_1 == a1_1) = true:=beq_iff_eq.mpr c4
   have c4b1 : (a0_1 != a1_1) = false:=bne_eq_false_iff_eq.mpr c4
   clear c4
   by_cases c5 : (a0_2 != a1_2) = true
   ·rw [if_pos c5] at H
    have c5b0 : (a0_2 != a1_2) = true:=c5
    (try (have c5b1 : decide (a0_2 = a1_2) = false:=by simpa using c5))
    (try (have c5b2 : (a0_2 == a1_2) = false:=by simpa using c5))
    (try (have c5b3 : ¬ (a0_2 = a1_2):=by simpa using c5))
    clear c5
    obtain rfl:=Option.some.inj H
    go_enter Try.func176,Try.ntmps176
    go_wp2_with (first | ((with_reducible refine gate_dst (N:=2) rfl ?_);refine box_event ?hg (N:=2) ?hd (cs:=#[.string a0_0,.int .i64 a0_1,.bool a0_2]) (t:=146) ?hr ?_;(case hd=>rfl);(case hg=>rfl);(case hr=>first | (go_simp;done) | (go_simp;rfl));intro gb185 hg w6 hbox hb;have n0_:=aM_ (bT_ (by exact bZ_ HB) hb);have n1_:=aM_ (hbox);have n2_:=aM_ ((by rw [hg];exact (bS_ (by exact bZ_ HB)) : w.heap.size ≤ gb185));have n3_:=aM_ ((by rw [hg];exact (bS_ (by exact bZ_ HB)) : w.heap.size ≤ gb185));clear HB;have HB:=n0_;have BK185:=n1_;have GW185:=n2_;have GE185:=n3_;clear n0_ n1_ n2_ n3_ hb hbox hg) | ((with_reducible refine gate_dst (N:=3) rfl ?_);refine box_event ?hg (N:=3) ?hd (cs:=#[.string a1_0,.int .i64 a1_1,.bool a1_2]) (t:=146) ?hr ?_;(case hd=>rfl);(case hg=>rfl);(case hr=>first | (go_simp;done) | (go_simp;rfl));intro gb186 hg w7 hbox hb;have n0_:=aM_ (blk_below (g:=gb185) (o:=.cells #[.string a0_0,.int .i64 a0_1,.bool a0_2] 146 (0,0)) (by exact kZ_ BK185) hb);have n1_:=aM_ (bT_ (by exact bZ_ HB) hb);have n2_:=aM_ (hbox);have n3_:=aM_ ((by rw [hg];exact (bS_ (by exact bZ_ HB)) : w.heap.size ≤ gb186));have n4_:=aM_ ((by rw [hg];exact (bS_ (by exact bZ_ HB)) : w.heap.size ≤ gb186));have n5_:=aM_ ((by rw [hg];exact nN_ (blk_lt (g:=gb185) (o:=.cells #[.string a0_0,.int .i64 a0_1,.bool a0_2] 146 (0,0)) (by exact kZ_ BK185)) : gb185 ≠ gb186));have n6_:=aM_ ((by rw [hg];exact Nat.ne_of_gt (blk_lt (g:=gb185) (o:=.cells #[.string a0_0,.int .i64 a0_1,.bool a0_2] 146 (0,0)) (by exact kZ_ BK185)) : gb186 ≠ gb185));clear BK185 HB;have BK185:=n0_;have HB:=n1_;have BK186:=n2_;have GW186:=n3_;have GE186:=n4_;have NB185_186:=n5_;have NB186_185:=n6_;clear n0_ n1_ n2_ n3_ n4_ n5_ n6_ hb hbox hg;have hnb8:=NB185_186.out;have hnc8:=NB186_185.out;have hcz9_0 : w7.cell? ⟨gb185,0,none⟩ = some (.string a0_0):=(kC_ BK185.out 0).trans rfl;have hcz9_1 : w7.cell? ⟨gb185,1,none⟩ = some (.int .i64 a0_1):=(kC_ BK185.out 1).trans rfl;have hcz9_2 : w7.cell? ⟨gb185,2,none⟩ = some (.bool a0_2):=(kC_ BK185.out 2).trans rfl;have hfz9_0:=kF_ BK185.out 0;have hfz9_1:=kF_ BK185.out 1;have hfz9_2:=kF_ BK185.out 2;have hcz10_0 : w7.cell? ⟨gb186,0,none⟩ = some (.string a1_0):=(kC_ BK186.out 0).trans rfl;have hcz10_1 : w7.cell? ⟨gb186,1,none⟩ = some (.int .i64 a1_1):=(kC_ BK186.out 1).trans rfl;have hcz10_2 : w7.cell? ⟨gb186,2,none⟩ = some (.bool a1_2):=(kC_ BK186.out 2).trans rfl;have hfz10_0:=kF_ BK186.out 0;have hfz10_1:=kF_ BK186.out 1;have hfz10_2:=kF_ BK186.out 2))
    go_ret
    exact ⟨by first | rfl | (simp [errW_none,errW_some] <;> rfl) | (simp [*, errW_none,errW_some] <;> rfl),by exact bZ_ HB⟩
   ·rw [if_neg c5] at H
    have c5b0 : (a0_2 != a1_2) = false:=by simpa using c5
    (try (have c5b1 : decide (a0_2 = a1_2) = true:=by simpa using c5))
    (try (have c5b2 : (a0_2 == a1_2) = true:=by simpa using c5))
    clear c5
    obtain rfl:=Option.some.inj H
    go_enter Try.func176,Try.ntmps176
    go_wp2_with (first | ((with_reducible refine gate_dst (N:=2) rfl ?_);refine box_event ?hg (N:=2) ?hd (cs:=#[.string a0_0,.int .i64 a0_1,.bool a0_2]) (t:=146) ?hr ?_;(case hd=>rfl);(case hg=>rfl);(case hr=>first | (go_simp;done) | (go_simp;rfl));intro gb185 hg w11 hbox hb;have n0_:=aM_ (bT_ (by exact bZ_ HB) hb);have n1_:=aM_ (hbox);have n2_:=aM_ ((by rw [hg];exact (bS_ (by exact bZ_ HB)) : w.heap.size ≤ gb185));have n3_:=aM_ ((by rw [hg];exact (bS_ (by exact bZ_ HB)) : w.heap.size ≤ gb185));clear HB;have HB:=n0_;have BK185:=n1_;have GW185:=n2_;have GE185:=n3_;clear n0_ n1_ n2_ n3_ hb hbox hg) | ((with_reducible refine gate_dst (N:=3) rfl ?_);refine box_event ?hg (N:=3) ?hd (cs:=#[.string a1_0,.int .i64 a1_1,.bool a1_2]) (t:=146) ?hr ?_;(case hd=>rfl);(case hg=>rfl);(case hr=>first | (go_simp;done) | (go_simp;rfl));intro gb186 hg w12 hbox hb;have n0_:=aM_ (blk_below (g:=gb185) (o:=.cells #[.string a0_0,.int .i64 a0_1,.bool a0_2] 146 (0,0)) (by exact kZ_ BK185) hb);have n1_:=aM_ (bT_ (by exact bZ_ HB) hb);have n2_:=aM_ (hbox);have n3_:=aM_ ((by rw [hg];exact (bS_ (by exact bZ_ HB)) : w.heap.size ≤ gb186));have n4_:=aM_ ((by rw [hg];exact (bS_ (by exact bZ_ HB)) : w.heap.size ≤ gb186));have n5_:=aM_ ((by rw [hg];exact nN_ (blk_lt (g:=gb185) (o:=.cells #[.string a0_0,.int .i64 a0_1,.bool a0_2] 146 (0,0)) (by exact kZ_ BK185)) : gb185 ≠ gb186));have n6_:=aM_ ((by rw [hg];exact Nat.ne_of_gt (blk_lt (g:=gb185) (o:=.cells #[.string a0_0,.int .i64 a0_1,.bool a0_2] 146 (0,0)) (by exact kZ_ BK185)) : gb186 ≠ gb185));clear BK185 HB;have BK185:=n0_;have HB:=n1_;have BK186:=n2_;have GW186:=n3_;have GE186:=n4_;have NB185_186:=n5_;have NB186_185:=n6_;clear n0_ n1_ n2_ n3_ n4_ n5_ n6_ hb hbox hg;have hnb13:=NB185_186.out;have hnc13:=NB186_185.out;have hcz14_0 : w12.cell? ⟨gb185,0,none⟩ = some (.string a0_0):=(kC_ BK185.out 0).trans rfl;have hcz14_1 : w12.cell? ⟨gb185,1,none⟩ = some (.int .i64 a0_1):=(kC_ BK185.out 1).trans rfl;have hcz14_2 : w12.cell? ⟨gb185,2,none⟩ = some (.bool a0_2):=(kC_ BK185.out 2).trans rfl;have hfz14_0:=kF_ BK185.out 0;have hfz14_1:=kF_ BK185.out 1;have hfz14_2:=kF_ BK185.out 2;have hcz15_0 : w12.cell? ⟨gb186,0,none⟩ = some (.string a1_0):=(kC_ BK186.out 0).trans rfl;have hcz15_1 : w12.cell? ⟨gb186,1,none⟩ = some (.int .i64 a1_1):=(kC_ BK186.out 1).trans rfl;have hcz15_2 : w12.cell? ⟨gb186,2,none⟩ = some (.bool a1_2):=(kC_ BK186.out 2).trans rfl;have hfz15_0:=kF_ BK186.out 0;have hfz15_1:=kF_ BK186.out 1;have hfz15_2:=kF_ BK186.out 2))
    go_ret
    exact ⟨by first | rfl | (simp [errW_none,errW_some] <;> rfl) | (simp [*, errW_none,errW_some] <;> rfl),by exact bZ_ HB⟩
  ·rw [if_neg c4] at H
   have c4b0 : (a0_1 == a1_1) = false:=beq_eq_false_iff_ne.mpr c4
   have c4b1 : (a0_1 != a1_1) = true:=bne_iff_ne.mpr c4
   obtain rfl:=Option.some.inj H
   go_enter Try.func176,Try.ntmps176
   go_wp2_with (first | ((with_reducible refine gate_dst (N:=2) rfl ?_);refine box_event ?hg (N:=2) ?hd (cs:=#[.string a0_0,.int .i64 a0_1,.bool a0_2]) (t:=146) ?hr ?_;(case hd=>rfl);(case hg=>rfl);(case hr=>first | (go_simp;done) | (go_simp;rfl));intro gb185 hg w16 hbox hb;have n0_:=aM_ (bT_ (by exact bZ_ HB) hb);have n1_:=aM_ (hbox);have n2_:=aM_ ((by rw [hg];exact (bS_ (by exact bZ_ HB)) : w.heap.size ≤ gb185));have n3_:=aM_ ((by rw [hg];exact (bS_ (by exact bZ_ HB)) : w.heap.size ≤ gb185));clear HB;have HB:=n0_;have BK185:=n1_;have GW185:=n2_;have GE185:=n3_;clear n0_ n1_ n2_ n3_ hb hbox hg) | ((with_reducible refine gate_dst (N:=3) rfl ?_);refine box_event ?hg (N:=3) ?hd (cs:=#[.string a1_0,.int .i64 a1_1,.bool a1_2]) (t:=146) ?hr ?_;(case hd=>rfl);(case hg=>rfl);(case hr=>first | (go_simp;done) | (go_simp;rfl));intro gb186 hg w17 hbox hb;have n0_:=aM_ (blk_below (g:=gb185) (o:=.cells #[.string a0_0,.int .i64 a0_1,.bool a0_2] 146 (0,0)) (by exact kZ_ BK185) hb);have n1_:=aM_ (bT_ (by exact bZ_ HB) hb);have n2_:=aM_ (hbox);have n3_:=aM_ ((by rw [hg];exact (bS_ (by exact bZ_ HB)) : w.heap.size ≤ gb186));have n4_:=aM_ ((by rw [hg];exact (bS_ (by exact bZ_ HB)) : w.heap.size ≤ gb186));have n5_:=aM_ ((by rw [hg];exact nN_ (blk_lt (g:=gb185) (o:=.cells #[.string a0_0,.int .i64 a0_1,.bool a0_2] 146 (0,0)) (by exact kZ_ BK185)) : gb185 ≠ gb186));have n6_:=aM_ ((by rw [hg];exact Nat.ne_of_gt (blk_lt (g:=gb185) (o:=.cells #[.string a0_0,.int .i64 a0_1,.bool a0_2] 146 (0,0)) (by exact kZ_ BK185)) : gb186 ≠ gb185));clear BK185 HB;have BK185:=n0_;have HB:=n1_;have BK186:=n2_;have GW186:=n3_;have GE186:=n4_;have NB185_186:=n5_;have NB186_185:=n6_;clear n0_ n1_ n2_ n3_ n4_ n5_ n6_ hb hbox hg;have hnb18:=NB185_186.out;have hnc18:=NB186_185.out;have hcz19_0 : w17.cell? ⟨gb185,0,none⟩ = some (.string a0_0):=(kC_ BK185.out 0).trans rfl;have hcz19_1 : w17.cell? ⟨gb185,1,none⟩ = some (.int .i64 a0_1):=(kC_ BK185.out 1).trans rfl;have hcz19_2 : w17.cell? ⟨gb185,2,none⟩ = some (.bool a0_2):=(kC_ BK185.out 2).trans rfl;have hfz19_0:=kF_ BK185.out 0;have hfz19_1:=kF_ BK185.out 1;have hfz19_2:=kF_ BK185.out 2;have hcz20_0 : w17.cell? ⟨gb186,0,none⟩ = some (.string a1_0):=(kC_ BK186.out 0).trans rfl;have hcz20_1 : w17.cell? ⟨gb186,1,none⟩ = some (.int .i64 a1_1):=(kC_ BK186.out 1).trans rfl;have hcz20_2 : w17.cell? ⟨gb186,2,none⟩ = some (.bool a1_2):=(kC_ BK186.out 2).trans rfl;have hfz20_0:=kF_ BK186.out 0;have hfz20_1:=kF_ BK186.out 1;have hfz20_2:=kF_ BK186.out 2))
   go_ret
   exact ⟨by first | rfl | (simp [errW_none,errW_some] <;> rfl) | (simp [*, errW_none,errW_some] <;> rfl),by exact bZ_ HB⟩
 ·rw [if_neg c3] at H
  have c3b0 : (a0_0.toList == a1_0.toList) = false:=beq_eq_false_iff_ne.mpr c3
  have c3b1 : (a0_0.toList != a1_0.toList) = true:=bne_iff_ne.mpr c3
  obtain rfl:=Option.some.inj H
  go_enter Try.func176,Try.ntmps176
  go_wp2_with (first | ((with_reducible refine gate_dst (N:=2) rfl ?_);refine box_event ?hg (N:=2) ?hd (cs:=#[.string a0_0,.int .i64 a0_1,.bool a0_2]) (t:=146) ?hr ?_;(case hd=>rfl);(case hg=>rfl);(case hr=>first | (go_simp;done) | (go_simp;rfl));intro gb185 hg w21 hbox hb;have n0_:=aM_ (bT_ (by exact bZ_ HB) hb);have n1_:=aM_ (hbox);have n2_:=aM_ ((by rw [hg];exact (bS_ (by exact bZ_ HB)) : w.heap.size ≤ gb185));have n3_:=aM_ ((by rw [hg];exact (bS_ (by exact bZ_ HB)) : w.heap.size ≤ gb185));clear HB;have HB:=n0_;have BK185:=n1_;have GW185:=n2_;have GE185:=n3_;clear n0_ n1_ n2_ n3_ hb hbox hg) | ((with_reducible refine gate_dst (N:=3) rfl ?_);refine box_event ?hg (N:=3) ?hd (cs:=#[.string a1_0,.int .i64 a1_1,.bool a1_2]) (t:=146) ?hr ?_;(case hd=>rfl);(case hg=>rfl);(case hr=>first | (go_simp;done) | (go_simp;rfl));intro gb186 hg w22 hbox hb;have n0_:=aM_ (blk_below (g:=gb185) (o:=.cells #[.string a0_0,.int .i64 a0_1,.bool a0_2] 146 (0,0)) (by exact kZ_ BK185) hb);have n1_:=aM_ (bT_ (by exact bZ_ HB) hb);have n2_:=aM_ (hbox);have n3_:=aM_ ((by rw [hg];exact (bS_ (by exact bZ_ HB)) : w.heap.size ≤ gb186));have n4_:=aM_ ((by rw [hg];exact (bS_ (by exact bZ_ HB)) : w.heap.size ≤ gb186));have n5_:=aM_ ((by rw [hg];exact nN_ (blk_lt (g:=gb185) (o:=.cells #[.string a0_0,.int .i64 a0_1,.bool a0_2] 146 (0,0)) (by exact kZ_ BK185)) : gb185 ≠ gb186));have n6_:=aM_ ((by rw [hg];exact Nat.ne_of_gt (blk_lt (g:=gb185) (o:=.cells #[.string a0_0,.int .i64 a0_1,.bool a0_2] 146 (0,0)) (by exact kZ_ BK185)) : gb186 ≠ gb185));clear BK185 HB;have BK185:=n0_;have HB:=n1_;have BK186:=n2_;have GW186:=n3_;have GE186:=n4_;have NB185_186:=n5_;have NB186_185:=n6_;clear n0_ n1_ n2_ n3_ n4_ n5_ n6_ hb hbox hg;have hnb23:=NB185_186.out;have hnc23:=NB186_185.out;have hcz24_0 : w22.cell? ⟨gb185,0,none⟩ = some (.string a0_0):=(kC_ BK185.out 0).trans rfl;have hcz24_1 : w22.cell? ⟨gb185,1,none⟩ = some (.int .i64 a0_1):=(kC_ BK185.out 1).trans rfl;have hcz24_2 : w22.cell? ⟨gb185,2,none⟩ = some (.bool a0_2):=(kC_ BK185.out 2).trans rfl;have hfz24_0:=kF_ BK185.out 0;have hfz24_1:=kF_ BK185.out 1;have hfz24_2:=kF_ BK185.out 2;have hcz25_0 : w22.cell? ⟨gb186,0,none⟩ = some (.string a1_0):=(kC_ BK186.out 0).trans rfl;have hcz25_1 : w22.cell? ⟨gb186,1,none⟩ = some (.int .i64 a1_1):=(kC_ BK186.out 1).trans rfl;have hcz25_2 : w22.cell? ⟨gb186,2,none⟩ = some (.bool a1_2):=(kC_ BK186.out 2).trans rfl;have hfz25_0:=kF_ BK186.out 0;have hfz25_1:=kF_ BK186.out 1;have hfz25_2:=kF_ BK186.out 2))
  go_ret
  exact ⟨by first | rfl | (simp [errW_none,errW_some] <;> rfl) | (simp [*, errW_none,errW_some] <;> rfl),by exact bZ_ HB⟩
def laws_eqColS.l0 : Nat → List (S146) → List (S146) → Int → Option (Bool)
 | 0,_,_,_=>none
 | k + 1,x0,x1,x5=>if x5 < (x0.length : Int) then (if 0 ≤ x5 then (if x5 < (x1.length : Int) then ((laws_eqCol.f ((rd_T146 x0 x5).f0) ((rd_T146 x0 x5).f1) ((rd_T146 x0 x5).f2) ((rd_T146 x1 x5).f0) ((rd_T146 x1 x5).f1) ((rd_T146 x1 x5).f2)).bind fun t189=>(if t189 = true then (laws_eqColS.l0 k x0 x1 (wrap64 (x5 + 1))) else (some false))) else (none)) else (none)) else (some true)
def laws_eqColS.f (k : Nat) (l0 : List (S146)) (l1 : List (S146)) : Option (Bool):=if (l0.length : Int) = (l1.length : Int) then (laws_eqColS.l0 k l0 l1 0) else (some false)
theorem laws_eqColS.mono_l : ∀ k,(∀ y0 y1 y2,LeO (laws_eqColS.l0 k y0 y1 y2) (laws_eqColS.l0 (k + 1) y0 y1 y2))
 | 0=>fun _ _ _ r h=>by simp [laws_eqColS.l0] at h
 | k + 1=>by
  have ih0:=laws_eqColS.mono_l k
  ·intro y0 y1 y2
   unfold laws_eqColS.l0
   repeat' first
   | (with_reducible exact ih0 _ _ _)
   | (with_reducible exact LeO.refl _)
   | (with_reducible exact LeO.none _)
   | (with_reducible refine LeO.ite ?_ ?_)
   | (with_reducible refine LeO.bind ?_ (fun _=>?_))
   | exact ih0 _ _ _
   | exact LeO.none _
   | refine LeO.ite ?_ ?_
   | refine LeO.bind ?_ (fun _=>?_)
theorem laws_eqColS.mono : ∀ a0 a1 k,LeO (laws_eqColS.f k a0 a1) (laws_eqColS.f (k + 1) a0 a1):=by
 intro a0 a1 k
 have ih0:=laws_eqColS.mono_l k
 unfold laws_eqColS.f
 repeat' first
   | (with_reducible exact ih0 _ _ _)
   | (with_reducible exact LeO.refl _)
   | (with_reducible exact LeO.none _)
   | (with_reducible refine LeO.ite ?_ ?_)
   | (with_reducible refine LeO.bind ?_ (fun _=>?_))
   | exact ih0 _ _ _
   | exact LeO.none _
   | refine LeO.ite ?_ ?_
   | refine LeO.bind ?_ (fun _=>?_)
def laws_eqColS.T6 : Bool × List (List Nat × List Nat):=(true,[([],[]),([],[]),([0,1],[0,1]),([2],[2]),([],[]),([],[]),([4,5],[4,5]),([6],[6]),([3,7],[3,7]),([8],[8])])
def laws_eqColS.B6 : List Nat:=[0,0,3,7,0,0,48,112,255,511]
theorem laws_eqColS.tab6 : rtab .any (opsOf Try.f141 6) = laws_eqColS.T6:=by kernel_rfl
theorem laws_eqColS.bits6 : waitsOk laws_eqColS.T6.2 laws_eqColS.B6 = true:=by kernel_rfl
set_option maxHeartbeats 8000000 in
set_option maxRecDepth 100000 in
theorem laws_eqColS.calls (k : Nat) (A0 : Option Addr) (c0 : Nat) (l0 : List (S146)) (A1 : Option Addr) (c1 : Nat) (l1 : List (S146)) (r : Bool) (w : World) (hr0 : Kd.C k146 w A0 l0.length l0) (hc0 : l0.length ≤ c0) (hr1 : Kd.C k146 w A1 l1.length l1) (hc1 : l1.length ≤ c1) (h : laws_eqColS.f k l0 l1 = some r) :
  Calls Try.prog 141 #[.slice A0 l0.length c0,.slice A1 l1.length c1] w fun e w'=>e = .returned (.bool r) ∧ Below w.heap.size w w':=by
 have hu146:=Try.underlying146
 have HR0:=aM_ hr0
 have HC0:=aM_ hc0
 clear hr0 hc0
 have HR1:=aM_ hr1
 have HC1:=aM_ hc1
 clear hr1 hc1
 have HB:=aM_ (Below.refl w.heap.size w)
 have H : (if (l0.length : Int) = (l1.length : Int) then (laws_eqColS.l0 k l0 l1 0) else (some false)) = some r:=h
 clear h
 by_cases c3 : (l0.length : Int) = (l1.length : Int)
 ·rw [if_pos c3] at H
  have c3b0 : ((l0.length : Int) == (l1.length : Int)) = true:=beq_iff_eq.mpr c3
  have c3b1 : ((l0.length : Int) != (l1.length : Int)) = false:=bne_eq_false_iff_eq.mpr c3
  have c3b2 : (l0.length == l1.length) = true:=by first | simpa using c3 | (simp at c3 ⊢;omega)
  clear c3
  have H':=aM_ H
  clear H
  go_enter Try.func141,Try.ntmps141
  go_wp2
  (try simp only [Act.put,sI_,sS_,sZ_])
  go_loopg [5] k (fun kq v5 w'=>∃ (x5_1 : Int),v5 = .int .i64 x5_1 ∧ Aside0 (laws_eqColS.l0 kq l0 l1 x5_1 = some r) ∧ Aside0 (kq ≤ k) ∧ Aside0 (Below w.heap.size w w'))
  case atStart=>exact ⟨(0),(by first | rfl | (simp;done) | (simp [*];done)),H', ⟨Nat.le_refl _⟩,⟨by exact bZ_ HB⟩⟩
  case round =>
   clear H'
   clear c3b0 c3b1 c3b2
   obtain ⟨x5_1,rfl,HA,HK1,HB⟩:=hrel
   cases gk with
   | zero=>exact absurd HA.out (by simp [laws_eqColS.l0])
   | succ k1 =>
    have H:=HA.out
    clear HA
    simp only [laws_eqColS.l0] at H
    by_cases c4 : x5_1 < (l0.length : Int)
    ·rw [if_pos c4] at H
     have c4b0 : decide (x5_1 < (l0.length : Int)) = true:=decide_eq_true c4
     clear c4
     by_cases c5 : 0 ≤ x5_1
     ·rw [if_pos c5] at H
      have c5b0 : decide (0 ≤ x5_1) = true:=decide_eq_true c5
      clear c5
      by_cases c6 : x5_1 < (l1.length : Int)
      ·rw [if_pos c6] at H
       have c6b0 : decide (x5_1 < (l1.length : Int)) = true:=decide_eq_true c6
       clear c6
       replace H:=oB_ H
       obtain ⟨t189,A70,H⟩:=H
       replace H : (if t189 = true then (laws_eqColS.l0 k1 l0 l1 (wrap64 (x5_1 + 1))) else (some false)) = some r:=H
       have A7:=aM_ A70
       clear A70
       by_cases c8 : t189 = true
       ·subst c8
        have H1 : (laws_eqColS.l0 k1 l0 l1 (wrap64 (x5_1 + 1))) = some r:=by rw [if_pos rfl] at H;exact H
        clear H
        have H:=H1
        clear H1
        have H':=aM_ H
        clear H
        try go_wp2
        have n0_:=aM_ (bD_ HB.out)
        clear HB
        have HB:=n0_
        clear n0_
        have p187 : 0 ≤ (x5_1 : Int):=oT_ (by first | (with_reducible assumption) | assumption)
        have q187 : x5_1 < (l0.length : Int):=oT_ (by first | (with_reducible assumption) | assumption)
        obtain ⟨ad187,e187,hx187_0,hx187_1,hx187_2⟩:=at_T146 HR0.out x5_1 p187 q187
        have hw187_2:=hx187_2
        have hw187_1:=hx187_1
        have hw187_0:=hx187_0
        cases e187
        replace hx187_0:=(HB.out.cell (wL_ w _ hx187_0)).trans hx187_0
        replace hx187_1:=(HB.out.cell (wL_ w _ hx187_1)).trans hx187_1
        replace hx187_2:=(HB.out.cell (wL_ w _ hx187_2)).trans hx187_2
        replace p187:=eq_true p187
        replace q187:=eq_true q187
        have p188 : 0 ≤ (x5_1 : Int):=oT_ (by first | (with_reducible assumption) | assumption)
        have q188 : x5_1 < (l1.length : Int):=oT_ (by first | (with_reducible assumption) | assumption)
        obtain ⟨ad188,e188,hx188_0,hx188_1,hx188_2⟩:=at_T146 HR1.out x5_1 p188 q188
        have hw188_2:=hx188_2
        have hw188_1:=hx188_1
        have hw188_0:=hx188_0
        cases e188
        replace hx188_0:=(HB.out.cell (wL_ w _ hx188_0)).trans hx188_0
        replace hx188_1:=(HB.out.cell (wL_ w _ hx188_1)).trans hx188_1
        replace hx188_2:=(HB.out.cell (wL_ w _ hx188_2)).trans hx188_2
        replace p188:=eq_true p188
        replace q188:=eq_true q188
        refine start_ (n:=10) (S:=fun w'=>w'.cell? (ad187.add ((x5_1).toNat * 3)) = some (.string ((rd_T146 l0 x5_1).f0)) ∧ w'.cell? ⟨(ad187.add ((x5_1).toNat * 3)).block,(ad187.add ((x5_1).toNat * 3)).off + 1,none⟩ = some (.int .i64 ((rd_T146 l0 x5_1).f1)) ∧ w'.cell? ⟨(ad187.add ((x5_1).toNat * 3)).block,(ad187.add ((x5_1).toNat * 3)).off + 2,none⟩ = some (.bool ((rd_T146 l0 x5_1).f2)) ∧ w'.cell? (ad188.add ((x5_1).toNat * 3)) = some (.string ((rd_T146 l1 x5_1).f0)) ∧ w'.cell? ⟨(ad188.add ((x5_1).toNat * 3)).block,(ad188.add ((x5_1).toNat * 3)).off + 1,none⟩ = some (.int .i64 ((rd_T146 l1 x5_1).f1)) ∧ w'.cell? ⟨(ad188.add ((x5_1).toNat * 3)).block,(ad188.add ((x5_1).toNat * 3)).off + 2,none⟩ = some (.bool ((rd_T146 l1 x5_1).f2))) (ds:=[]) (tb_ 0 10) (by kernel_rfl) rfl rfl ⟨((HB.out.cell (wL_ w _ hw187_0)).trans hw187_0),((HB.out.cell (wL_ w _ hw187_1)).trans hw187_1),((HB.out.cell (wL_ w _ hw187_2)).trans hw187_2),((HB.out.cell (wL_ w _ hw188_0)).trans hw188_0),((HB.out.cell (wL_ w _ hw188_1)).trans hw188_1),((HB.out.cell (wL_ w _ hw188_2)).trans hw188_2)⟩ (fun hHeld=>?_);refine with_tabW laws_eqColS.tab6 laws_eqColS.bits6 (fun HT_ HW_=>?_)
        generalize wr.drew = w9 at HB hx187_0 hx187_1 hx187_2 hx188_0 hx188_1 hx188_2 hHeld ⊢
        refine pure_ (i:=0) (N:=some 17) (v:=?_) (a':=?_) (tb_ 1 9) rfl rfl (any_of HT_.out (by kernel_rfl)) (fun _ _ _ h=>h) (Or.inl ⟨by rfl,?_⟩) ?_ ?_
        rotate_left
        ·intro w'
         go_simp
         with_reducible rfl
        rotate_left
        ·simp only [Act.put,sI_,sZ_,sS_,i64_w,i32_w]
         rfl
        refine pure_ (i:=1) (N:=some 18) (v:=?_) (a':=?_) (tb_ 2 8) rfl rfl (any_of HT_.out (by kernel_rfl)) (fun _ _ _ h=>h) (Or.inl ⟨by rfl,?_⟩) ?_ ?_
        rotate_left
        ·intro w'
         go_simp
         with_reducible rfl
        rotate_left
        ·simp only [Act.put,sI_,sZ_,sS_,i64_w,i32_w]
         rfl
        refine pure_ (i:=2) (N:=some 19) (v:=?_) (a':=?_) (tb_ 3 7) rfl rfl (any_of HT_.out (by kernel_rfl)) (fun _ _ _ h=>h) (Or.inl ⟨by rfl,?_⟩) ?_ ?_
        rotate_left
        ·intro w'
         go_simp
         with_reducible rfl
        rotate_left
        ·simp only [Act.put,sI_,sZ_,sS_,i64_w,i32_w]
         rfl
        refine pure_ (i:=4) (N:=some 21) (v:=?_) (a':=?_) #[true,true,true,false,true,false,false,false,false,false] rfl rfl (any_of HT_.out (by kernel_rfl)) (fun _ _ _ h=>h) (Or.inl ⟨by rfl,?_⟩) ?_ ?_
        rotate_left
        ·intro w'
         go_simp
         with_reducible rfl
        rotate_left
        ·simp only [Act.put,sI_,sZ_,sS_,i64_w,i32_w]
         rfl
        refine pure_ (i:=5) (N:=some 22) (v:=?_) (a':=?_) #[true,true,true,false,true,true,false,false,false,false] rfl rfl (any_of HT_.out (by kernel_rfl)) (fun _ _ _ h=>h) (Or.inl ⟨by rfl,?_⟩) ?_ ?_
        rotate_left
        ·intro w'
         go_simp
         with_reducible rfl
        rotate_left
        ·simp only [Act.put,sI_,sZ_,sS_,i64_w,i32_w]
         rfl
        refine pure_ (i:=6) (N:=some 23) (v:=?_) (a':=?_) #[true,true,true,false,true,true,true,false,false,false] rfl rfl (any_of HT_.out (by kernel_rfl)) (fun _ _ _ h=>h) (Or.inl ⟨by rfl,?_⟩) ?_ ?_
        rotate_left
        ·intro w'
         go_simp
         with_reducible rfl
        rotate_left
        ·simp only [Act.put,sI_,sZ_,sS_,i64_w,i32_w]
         rfl
        refine take_ (i:=3) (N:=some 20) (v:=?_) (a':=?_) (tb_ 7 3) rfl rfl (take_ofW HT_.out HW_.out (by kernel_rfl)) (fun _ _ _ h=>h) (Or.inl ⟨by rfl,?_⟩) hHeld ?_ ?_
        rotate_left
        ·rintro w' ⟨s0,s1,s2,s3,s4,s5⟩
         go_simp
         with_reducible rfl
        rotate_left
        ·simp only [Act.put,sI_,sZ_,sS_,i64_w,i32_w]
         rfl
        refine take_ (i:=7) (N:=some 24) (v:=?_) (a':=?_) (tb_ 8 2) rfl rfl (take_ofW HT_.out HW_.out (by kernel_rfl)) (fun _ _ _ h=>h) (Or.inl ⟨by rfl,?_⟩) hHeld ?_ ?_
        rotate_left
        ·rintro w' ⟨s0,s1,s2,s3,s4,s5⟩
         go_simp
         with_reducible rfl
        rotate_left
        ·simp only [Act.put,sI_,sZ_,sS_,i64_w,i32_w]
         rfl
        refine one_ (i:=8) (N:=some 25) (tb_ 9 1) rfl rfl (one_of HT_.out (by kernel_rfl)) (by decide) (fun K hK=>?_)
        refine goes_ Try.func176 (by kernel_rfl) rfl #[.agg #[.string ((rd_T146 l0 x5_1).f0),.int .i64 ((rd_T146 l0 x5_1).f1),.bool ((rd_T146 l0 x5_1).f2)],.agg #[.string ((rd_T146 l1 x5_1).f0),.int .i64 ((rd_T146 l1 x5_1).f1),.bool ((rd_T146 l1 x5_1).f2)]] (by rfl) rfl rfl (by (try simp only [mA_,mC_,mN_]);first | done | rfl | (simp only [lD_,lT_];rfl)) ?_
        with_reducible refine (laws_eqCol.calls ((rd_T146 l0 x5_1).f0) ((rd_T146 l0 x5_1).f1) ((rd_T146 l0 x5_1).f2) ((rd_T146 l1 x5_1).f0) ((rd_T146 l1 x5_1).f1) ((rd_T146 l1 x5_1).f2) true _ A7.out).mono ?_
        rintro e w10 ⟨rfl,hb⟩
        refine ⟨_,rfl,?_⟩
        have n0_:=aM_ (bT_ (by exact bZ_ HB) hb)
        clear HB
        have HB:=n0_
        clear n0_ hb
        skip
        skip
        skip
        refine hK.out _ _ ⟨((HB.out.cell (wL_ w _ hw187_0)).trans hw187_0),((HB.out.cell (wL_ w _ hw187_1)).trans hw187_1),((HB.out.cell (wL_ w _ hw187_2)).trans hw187_2),((HB.out.cell (wL_ w _ hw188_0)).trans hw188_0),((HB.out.cell (wL_ w _ hw188_1)).trans hw188_1),((HB.out.cell (wL_ w _ hw188_2)).trans hw188_2)⟩ (fun hHeld=>?_)
        clear hK K
        refine norm_ (a':=?_) ?_ ?_
        rotate_left
        ·show Act.put _ (some 25) _ = _
         simp only [Act.put,sI_,sZ_,sS_,i64_w,i32_w]
         rfl
        refine pure_ (i:=9) (N:=some 26) (v:=?_) (a':=?_) (tb_ 10 0) rfl rfl (any_of HT_.out (by kernel_rfl)) (fun _ _ _ h=>h) (Or.inl ⟨by rfl,?_⟩) ?_ ?_
        rotate_left
        ·intro w'
         go_simp
         with_reducible rfl
        rotate_left
        ·simp only [Act.put,sI_,sZ_,sS_,i64_w,i32_w]
         rfl
        refine done_ (done_of HT_.out (by kernel_rfl)) ?_
        try go_wp2
        go_roundg k1
        case measure=>have:=HK1.out;omega
        case rel=>exact ⟨(wrap64 (x5_1 + 1)),(by first | rfl | (simp;done) | (simp [*];done)),H', ⟨by have:=HK1.out;omega⟩,⟨by exact bZ_ HB⟩⟩
       ·replace c8:=Bool.eq_false_iff.mpr c8
        subst c8
        have H1 : (some false) = some r:=by rw [if_neg (show ¬ (false = true) by decide)] at H;exact H
        clear H
        have H:=H1
        clear H1
        obtain rfl:=Option.some.inj H
        try go_wp2
        have n0_:=aM_ (bD_ HB.out)
        clear HB
        have HB:=n0_
        clear n0_
        have p187 : 0 ≤ (x5_1 : Int):=oT_ (by first | (with_reducible assumption) | assumption)
        have q187 : x5_1 < (l0.length : Int):=oT_ (by first | (with_reducible assumption) | assumption)
        obtain ⟨ad187,e187,hx187_0,hx187_1,hx187_2⟩:=at_T146 HR0.out x5_1 p187 q187
        have hw187_2:=hx187_2
        have hw187_1:=hx187_1
        have hw187_0:=hx187_0
        cases e187
        replace hx187_0:=(HB.out.cell (wL_ w _ hx187_0)).trans hx187_0
        replace hx187_1:=(HB.out.cell (wL_ w _ hx187_1)).trans hx187_1
        replace hx187_2:=(HB.out.cell (wL_ w _ hx187_2)).trans hx187_2
        replace p187:=eq_true p187
        replace q187:=eq_true q187
        have p188 : 0 ≤ (x5_1 : Int):=oT_ (by first | (with_reducible assumption) | assumption)
        have q188 : x5_1 < (l1.length : Int):=oT_ (by first | (with_reducible assumption) | assumption)
        obtain ⟨ad188,e188,hx188_0,hx188_1,hx188_2⟩:=at_T146 HR1.out x5_1 p188 q188
        have hw188_2:=hx188_2
        have hw188_1:=hx188_1
        have hw188_0:=hx188_0
        cases e188
        replace hx188_0:=(HB.out.cell (wL_ w _ hx188_0)).trans hx188_0
        replace hx188_1:=(HB.out.cell (wL_ w _ hx188_1)).trans hx188_1
        replace hx188_2:=(HB.out.cell (wL_ w _ hx188_2)).trans hx188_2
        replace p188:=eq_true p188
        replace q188:=eq_true q188
        refine start_ (n:=10) (S:=fun w'=>w'.cell? (ad187.add ((x5_1).toNat * 3)) = some (.string ((rd_T146 l0 x5_1).f0)) ∧ w'.cell? ⟨(ad187.add ((x5_1).toNat * 3)).block,(ad187.add ((x5_1).toNat * 3)).off + 1,none⟩ = some (.int .i64 ((rd_T146 l0 x5_1).f1)) ∧ w'.cell? ⟨(ad187.add ((x5_1).toNat * 3)).block,(ad187.add ((x5_1).toNat * 3)).off + 2,none⟩ = some (.bool ((rd_T146 l0 x5_1).f2)) ∧ w'.cell? (ad188.add ((x5_1).toNat * 3)) = some (.string ((rd_T146 l1 x5_1).f0)) ∧ w'.cell? ⟨(ad188.add ((x5_1).toNat * 3)).block,(ad188.add ((x5_1).toNat * 3)).off + 1,none⟩ = some (.int .i64 ((rd_T146 l1 x5_1).f1)) ∧ w'.cell? ⟨(ad188.add ((x5_1).toNat * 3)).block,(ad188.add ((x5_1).toNat * 3)).off + 2,none⟩ = some (.bool ((rd_T146 l1 x5_1).f2))) (ds:=[]) (tb_ 0 10) (by kernel_rfl) rfl rfl ⟨((HB.out.cell (wL_ w _ hw187_0)).trans hw187_0),((HB.out.cell (wL_ w _ hw187_1)).trans hw187_1),((HB.out.cell (wL_ w _ hw187_2)).trans hw187_2),((HB.out.cell (wL_ w _ hw188_0)).trans hw188_0),((HB.out.cell (wL_ w _ hw188_1)).trans hw188_1),((HB.out.cell (wL_ w _ hw188_2)).trans hw188_2)⟩ (fun hHeld=>?_);refine with_tabW laws_eqColS.tab6 laws_eqColS.bits6 (fun HT_ HW_=>?_)
        generalize wr.drew = w11 at HB hx187_0 hx187_1 hx187_2 hx188_0 hx188_1 hx188_2 hHeld ⊢
        refine pure_ (i:=0) (N:=some 17) (v:=?_) (a':=?_) (tb_ 1 9) rfl rfl (any_of HT_.out (by kernel_rfl)) (fun _ _ _ h=>h) (Or.inl ⟨by rfl,?_⟩) ?_ ?_
        rotate_left
        ·intro w'
         go_simp
         with_reducible rfl
        rotate_left
        ·simp only [Act.put,sI_,sZ_,sS_,i64_w,i32_w]
         rfl
        refine pure_ (i:=1) (N:=some 18) (v:=?_) (a':=?_) (tb_ 2 8) rfl rfl (any_of HT_.out (by kernel_rfl)) (fun _ _ _ h=>h) (Or.inl ⟨by rfl,?_⟩) ?_ ?_
        rotate_left
        ·intro w'
         go_simp
         with_reducible rfl
        rotate_left
        ·simp only [Act.put,sI_,sZ_,sS_,i64_w,i32_w]
         rfl
        refine pure_ (i:=2) (N:=some 19) (v:=?_) (a':=?_) (tb_ 3 7) rfl rfl (any_of HT_.out (by kernel_rfl)) (fun _ _ _ h=>h) (Or.inl ⟨by rfl,?_⟩) ?_ ?_
        rotate_left
        ·intro w'
         go_simp
         with_reducible rfl
        rotate_left
        ·simp only [Act.put,sI_,sZ_,sS_,i64_w,i32_w]
         rfl
        refine pure_ (i:=4) (N:=some 21) (v:=?_) (a':=?_) #[true,true,true,false,true,false,false,false,false,false] rfl rfl (any_of HT_.out (by kernel_rfl)) (fun _ _ _ h=>h) (Or.inl ⟨by rfl,?_⟩) ?_ ?_
        rotate_left
        ·intro w'
         go_simp
         with_reducible rfl
        rotate_left
        ·simp only [Act.put,sI_,sZ_,sS_,i64_w,i32_w]
         rfl
        refine pure_ (i:=5) (N:=some 22) (v:=?_) (a':=?_) #[true,true,true,false,true,true,false,false,false,false] rfl rfl (any_of HT_.out (by kernel_rfl)) (fun _ _ _ h=>h) (Or.inl ⟨by rfl,?_⟩) ?_ ?_
        rotate_left
        ·intro w'
         go_simp
         with_reducible rfl
        rotate_left
        ·simp only [Act.put,sI_,sZ_,sS_,i64_w,i32_w]
         rfl
        refine pure_ (i:=6) (N:=some 23) (v:=?_) (a':=?_) #[true,true,true,false,true,true,true,false,false,false] rfl rfl (any_of HT_.out (by kernel_rfl)) (fun _ _ _ h=>h) (Or.inl ⟨by rfl,?_⟩) ?_ ?_
        rotate_left
        ·intro w'
         go_simp
         with_reducible rfl
        rotate_left
        ·simp only [Act.put,sI_,sZ_,sS_,i64_w,i32_w]
         rfl
        refine take_ (i:=3) (N:=some 20) (v:=?_) (a':=?_) (tb_ 7 3) rfl rfl (take_ofW HT_.out HW_.out (by kernel_rfl)) (fun _ _ _ h=>h) (Or.inl ⟨by rfl,?_⟩) hHeld ?_ ?_
        rotate_left
        ·rintro w' ⟨s0,s1,s2,s3,s4,s5⟩
         go_simp
         with_reducible rfl
        rotate_left
        ·simp only [Act.put,sI_,sZ_,sS_,i64_w,i32_w]
         rfl
        refine take_ (i:=7) (N:=some 24) (v:=?_) (a':=?_) (tb_ 8 2) rfl rfl (take_ofW HT_.out HW_.out (by kernel_rfl)) (fun _ _ _ h=>h) (Or.inl ⟨by rfl,?_⟩) hHeld ?_ ?_
        rotate_left
        ·rintro w' ⟨s0,s1,s2,s3,s4,s5⟩
         go_simp
         with_reducible rfl
        rotate_left
        ·simp only [Act.put,sI_,sZ_,sS_,i64_w,i32_w]
         rfl
        refine one_ (i:=8) (N:=some 25) (tb_ 9 1) rfl rfl (one_of HT_.out (by kernel_rfl)) (by decide) (fun K hK=>?_)
        refine goes_ Try.func176 (by kernel_rfl) rfl #[.agg #[.string ((rd_T146 l0 x5_1).f0),.int .i64 ((rd_T146 l0 x5_1).f1),.bool ((rd_T146 l0 x5_1).f2)],.agg #[.string ((rd_T146 l1 x5_1).f0),.int .i64 ((rd_T146 l1 x5_1).f1),.bool ((rd_T146 l1 x5_1).f2)]] (by rfl) rfl rfl (by (try simp only [mA_,mC_,mN_]);first | done | rfl | (simp only [lD_,lT_];rfl)) ?_
        with_reducible refine (laws_eqCol.calls ((rd_T146 l0 x5_1).f0) ((rd_T146 l0 x5_1).f1) ((rd_T146 l0 x5_1).f2) ((rd_T146 l1 x5_1).f0) ((rd_T146 l1 x5_1).f1) ((rd_T146 l1 x5_1).f2) false _ A7.out).mono ?_
        rintro e w12 ⟨rfl,hb⟩
        refine ⟨_,rfl,?_⟩
        have n0_:=aM_ (bT_ (by exact bZ_ HB) hb)
        clear HB
        have HB:=n0_
        clear n0_ hb
        skip
        skip
        skip
        refine hK.out _ _ ⟨((HB.out.cell (wL_ w _ hw187_0)).trans hw187_0),((HB.out.cell (wL_ w _ hw187_1)).trans hw187_1),((HB.out.cell (wL_ w _ hw187_2)).trans hw187_2),((HB.out.cell (wL_ w _ hw188_0)).trans hw188_0),((HB.out.cell (wL_ w _ hw188_1)).trans hw188_1),((HB.out.cell (wL_ w _ hw188_2)).trans hw188_2)⟩ (fun hHeld=>?_)
        clear hK K
        refine norm_ (a':=?_) ?_ ?_
        rotate_left
        ·show Act.put _ (some 25) _ = _
         simp only [Act.put,sI_,sZ_,sS_,i64_w,i32_w]
         rfl
        refine pure_ (i:=9) (N:=some 26) (v:=?_) (a':=?_) (tb_ 10 0) rfl rfl (any_of HT_.out (by kernel_rfl)) (fun _ _ _ h=>h) (Or.inl ⟨by rfl,?_⟩) ?_ ?_
        rotate_left
        ·intro w'
         go_simp
         with_reducible rfl
        rotate_left
        ·simp only [Act.put,sI_,sZ_,sS_,i64_w,i32_w]
         rfl
        refine done_ (done_of HT_.out (by kernel_rfl)) ?_
        try go_wp2
        go_ret
        exact ⟨by first | rfl | (simp [errW_none,errW_some] <;> rfl) | (simp [*, errW_none,errW_some] <;> rfl),by exact bZ_ HB⟩
      ·rw [if_neg c6] at H
       exact absurd H (by simp)
     ·rw [if_neg c5] at H
      exact absurd H (by simp)
    ·rw [if_neg c4] at H
     have c4b0 : decide (x5_1 < (l0.length : Int)) = false:=decide_eq_false c4
     clear c4
     obtain rfl:=Option.some.inj H
     go_wp2
     go_ret
     exact ⟨by first | rfl | (simp [errW_none,errW_some] <;> rfl) | (simp [*, errW_none,errW_some] <;> rfl),by exact bZ_ HB⟩
 ·rw [if_neg c3] at H
  have c3b0 : ((l0.length : Int) == (l1.length : Int)) = false:=beq_eq_false_iff_ne.mpr c3
  have c3b1 : ((l0.length : Int) != (l1.length : Int)) = true:=bne_iff_ne.mpr c3
  have c3b2 : (l0.length == l1.length) = false:=by first | simpa using c3 | (simp at c3 ⊢;omega)
  obtain rfl:=Option.some.inj H
  go_enter Try.func141,Try.ntmps141
  go_wp2
  go_ret
  exact ⟨by first | rfl | (simp [errW_none,errW_some] <;> rfl) | (simp [*, errW_none,errW_some] <;> rfl),by exact bZ_ HB⟩
def laws_eqBy.f (a0_0 : Int) (a0_1 : Bool) (a1_0 : Int) (a1_1 : Bool) : Option (Bool):=if a0_0 = a1_0 then (if (a0_1 != a1_1) = true then (some false) else (some true)) else (some false)
set_option maxHeartbeats 8000000 in
set_option maxRecDepth 100000 in
theorem laws_eqBy.calls (a0_0 : Int) (a0_1 : Bool) (a1_0 : Int) (a1_1 : Bool) (r : Bool) (w : World) (h : laws_eqBy.f a0_0 a0_1 a1_0 a1_1 = some r) :
  Calls Try.prog 177 #[.agg #[.int .i64 a0_0,.bool a0_1],.agg #[.int .i64 a1_0,.bool a1_1]] w fun e w'=>e = .returned (.bool r) ∧ Below w.heap.size w w':=by
 have hu184:=Try.underlying184
 have HB:=aM_ (Below.refl w.heap.size w)
 have H : (if a0_0 = a1_0 then (if (a0_1 != a1_1) = true then (some false) else (some true)) else (some false)) = some r:=h
 clear h
 by_cases c3 : a0_0 = a1_0
 ·rw [if_pos c3] at H
  have c3b0 : (a0_0 == a1_0) = true:=beq_iff_eq.mpr c3
  have c3b1 : (a0_0 != a1_0) = false:=bne_eq_false_iff_eq.mpr c3
  clear c3
  by_cases c4 : (a0_1 != a1_1) = true
  ·rw [if_pos c4] at H
   have c4b0 : (a0_1 != a1_1) = true:=c4
   (try (have c4b1 : decide (a0_1 = a1_1) = false:=by simpa using c4))
   (try (have c4b2 : (a0_1 == a1_1) = false:=by simpa using c4))
   (try (have c4b3 : ¬ (a0_1 = a1_1):=by simpa using c4))
   clear c4
   obtain rfl:=Option.some.inj H
   go_enter Try.func177,Try.ntmps177
   go_wp2_with (first | ((with_reducible refine gate_dst (N:=2) rfl ?_);refine box_event ?hg (N:=2) ?hd (cs:=#[.int .i64 a0_0,.bool a0_1]) (t:=184) ?hr ?_;(case hd=>rfl);(case hg=>rfl);(case hr=>first | (go_simp;done) | (go_simp;rfl));intro gb190 hg w5 hbox hb;have n0_:=aM_ (bT_ (by exact bZ_ HB) hb);have n1_:=aM_ (hbox);have n2_:=aM_ ((by rw [hg];exact (bS_ (by exact bZ_ HB)) : w.heap.size ≤ gb190));have n3_:=aM_ ((by rw [hg];exact (bS_ (by exact bZ_ HB)) : w.heap.size ≤ gb190));clear HB;have HB:=n0_;have BK190:=n1_;have GW190:=n2_;have GE190:=n3_;clear n0_ n1_ n2_ n3_ hb hbox hg) | ((with_reducible refine gate_dst (N:=3) rfl ?_);refine box_event ?hg (N:=3) ?hd (cs:=#[.int .i64 a1_0,.bool a1_1]) (t:=184) ?hr ?_;(case hd=>rfl);(case hg=>rfl);(case hr=>first | (go_simp;done) | (go_simp;rfl));intro gb191 hg w6 hbox hb;have n0_:=aM_ (blk_below (g:=gb190) (o:=.cells #[.int .i64 a0_0,.bool a0_1] 184 (0,0)) (by exact kZ_ BK190) hb);have n1_:=aM_ (bT_ (by exact bZ_ HB) hb);have n2_:=aM_ (hbox);have n3_:=aM_ ((by rw [hg];exact (bS_ (by exact bZ_ HB)) : w.heap.size ≤ gb191));have n4_:=aM_ ((by rw [hg];exact (bS_ (by exact bZ_ HB)) : w.heap.size ≤ gb191));have n5_:=aM_ ((by rw [hg];exact nN_ (blk_lt (g:=gb190) (o:=.cells #[.int .i64 a0_0,.bool a0_1] 184 (0,0)) (by exact kZ_ BK190)) : gb190 ≠ gb191));have n6_:=aM_ ((by rw [hg];exact Nat.ne_of_gt (blk_lt (g:=gb190) (o:=.cells #[.int .i64 a0_0,.bool a0_1] 184 (0,0)) (by exact kZ_ BK190)) : gb191 ≠ gb190));clear BK190 HB;have BK190:=n0_;have HB:=n1_;have BK191:=n2_;have GW191:=n3_;have GE191:=n4_;have NB190_191:=n5_;have NB191_190:=n6_;clear n0_ n1_ n2_ n3_ n4_ n5_ n6_ hb hbox hg;have hnb7:=NB190_191.out;have hnc7:=NB191_190.out;have hcz8_0 : w6.cell? ⟨gb190,0,none⟩ = some (.int .i64 a0_0):=(kC_ BK190.out 0).trans rfl;have hcz8_1 : w6.cell? ⟨gb190,1,none⟩ = some (.bool a0_1):=(kC_ BK190.out 1).trans rfl;have hfz8_0:=kF_ BK190.out 0;have hfz8_1:=kF_ BK190.out 1;have hcz9_0 : w6.cell? ⟨gb191,0,none⟩ = some (.int .i64 a1_0):=(kC_ BK191.out 0).trans rfl;have hcz9_1 : w6.cell? ⟨gb191,1,none⟩ = some (.bool a1_1):=(kC_ BK191.out 1).trans rfl;have hfz9_0:=kF_ BK191.out 0;have hfz9_1:=kF_ BK191.out 1))
   go_ret
   exact ⟨by first | rfl | (simp [errW_none,errW_some] <;> rfl) | (simp [*, errW_none,errW_some] <;> rfl),by exact bZ_ HB⟩
  ·rw [if_neg c4] at H
   have c4b0 : (a0_1 != a1_1) = false:=by simpa using c4
   (try (have c4b1 : decide (a0_1 = a1_1) = true:=by simpa using c4))
   (try (have c4b2 : (a0_1 == a1_1) = true:=by simpa using c4))
   clear c4
   obtain rfl:=Option.some.inj H
   go_enter Try.func177,Try.ntmps177
   go_wp2_with (first | ((with_reducible refine gate_dst (N:=2) rfl ?_);refine box_event ?hg (N:=2) ?hd (cs:=#[.int .i64 a0_0,.bool a0_1]) (t:=184) ?hr ?_;(case hd=>rfl);(case hg=>rfl);(case hr=>first | (go_simp;done) | (go_simp;rfl));intro gb190 hg w10 hbox hb;have n0_:=aM_ (bT_ (by exact bZ_ HB) hb);have n1_:=aM_ (hbox);have n2_:=aM_ ((by rw [hg];exact (bS_ (by exact bZ_ HB)) : w.heap.size ≤ gb190));have n3_:=aM_ ((by rw [hg];exact (bS_ (by exact bZ_ HB)) : w.heap.size ≤ gb190));clear HB;have HB:=n0_;have BK190:=n1_;have GW190:=n2_;have GE190:=n3_;clear n0_ n1_ n2_ n3_ hb hbox hg) | ((with_reducible refine gate_dst (N:=3) rfl ?_);refine box_event ?hg (N:=3) ?hd (cs:=#[.int .i64 a1_0,.bool a1_1]) (t:=184) ?hr ?_;(case hd=>rfl);(case hg=>rfl);(case hr=>first | (go_simp;done) | (go_simp;rfl));intro gb191 hg w11 hbox hb;have n0_:=aM_ (blk_below (g:=gb190) (o:=.cells #[.int .i64 a0_0,.bool a0_1] 184 (0,0)) (by exact kZ_ BK190) hb);have n1_:=aM_ (bT_ (by exact bZ_ HB) hb);have n2_:=aM_ (hbox);have n3_:=aM_ ((by rw [hg];exact (bS_ (by exact bZ_ HB)) : w.heap.size ≤ gb191));have n4_:=aM_ ((by rw [hg];exact (bS_ (by exact bZ_ HB)) : w.heap.size ≤ gb191));have n5_:=aM_ ((by rw [hg];exact nN_ (blk_lt (g:=gb190) (o:=.cells #[.int .i64 a0_0,.bool a0_1] 184 (0,0)) (by exact kZ_ BK190)) : gb190 ≠ gb191));have n6_:=aM_ ((by rw [hg];exact Nat.ne_of_gt (blk_lt (g:=gb190) (o:=.cells #[.int .i64 a0_0,.bool a0_1] 184 (0,0)) (by exact kZ_ BK190)) : gb191 ≠ gb190));clear BK190 HB;have BK190:=n0_;have HB:=n1_;have BK191:=n2_;have GW191:=n3_;have GE191:=n4_;have NB190_191:=n5_;have NB191_190:=n6_;clear n0_ n1_ n2_ n3_ n4_ n5_ n6_ hb hbox hg;have hnb12:=NB190_191.out;have hnc12:=NB191_190.out;have hcz13_0 : w11.cell? ⟨gb190,0,none⟩ = some (.int .i64 a0_0):=(kC_ BK190.out 0).trans rfl;have hcz13_1 : w11.cell? ⟨gb190,1,none⟩ = some (.bool a0_1):=(kC_ BK190.out 1).trans rfl;have hfz13_0:=kF_ BK190.out 0;have hfz13_1:=kF_ BK190.out 1;have hcz14_0 : w11.cell? ⟨gb191,0,none⟩ = some (.int .i64 a1_0):=(kC_ BK191.out 0).trans rfl;have hcz14_1 : w11.cell? ⟨gb191,1,none⟩ = some (.bool a1_1):=(kC_ BK191.out 1).trans rfl;have hfz14_0:=kF_ BK191.out 0;have hfz14_1:=kF_ BK191.out 1))
   go_ret
   exact ⟨by first | rfl | (simp [errW_none,errW_some] <;> rfl) | (simp [*, errW_none,errW_some] <;> rfl),by exact bZ_ HB⟩
 ·rw [if_neg c3] at H
  have c3b0 : (a0_0 == a1_0) = false:=beq_eq_false_iff_ne.mpr c3
  have c3b1 : (a0_0 != a1_0) = true:=bne_iff_ne.mpr c3
  obtain rfl:=Option.some.inj H
  go_enter Try.func177,Try.ntmps177
  go_wp2_with (first | ((with_reducible refine gate_dst (N:=2) rfl ?_);refine box_event ?hg (N:=2) ?hd (cs:=#[.int .i64 a0_0,.bool a0_1]) (t:=184) ?hr ?_;(case hd=>rfl);(case hg=>rfl);(case hr=>first | (go_simp;done) | (go_simp;rfl));intro gb190 hg w15 hbox hb;have n0_:=aM_ (bT_ (by exact bZ_ HB) hb);have n1_:=aM_ (hbox);have n2_:=aM_ ((by rw [hg];exact (bS_ (by exact bZ_ HB)) : w.heap.size ≤ gb190));have n3_:=aM_ ((by rw [hg];exact (bS_ (by exact bZ_ HB)) : w.heap.size ≤ gb190));clear HB;have HB:=n0_;have BK190:=n1_;have GW190:=n2_;have GE190:=n3_;clear n0_ n1_ n2_ n3_ hb hbox hg) | ((with_reducible refine gate_dst (N:=3) rfl ?_);refine box_event ?hg (N:=3) ?hd (cs:=#[.int .i64 a1_0,.bool a1_1]) (t:=184) ?hr ?_;(case hd=>rfl);(case hg=>rfl);(case hr=>first | (go_simp;done) | (go_simp;rfl));intro gb191 hg w16 hbox hb;have n0_:=aM_ (blk_below (g:=gb190) (o:=.cells #[.int .i64 a0_0,.bool a0_1] 184 (0,0)) (by exact kZ_ BK190) hb);have n1_:=aM_ (bT_ (by exact bZ_ HB) hb);have n2_:=aM_ (hbox);have n3_:=aM_ ((by rw [hg];exact (bS_ (by exact bZ_ HB)) : w.heap.size ≤ gb191));have n4_:=aM_ ((by rw [hg];exact (bS_ (by exact bZ_ HB)) : w.heap.size ≤ gb191));have n5_:=aM_ ((by rw [hg];exact nN_ (blk_lt (g:=gb190) (o:=.cells #[.int .i64 a0_0,.bool a0_1] 184 (0,0)) (by exact kZ_ BK190)) : gb190 ≠ gb191));have n6_:=aM_ ((by rw [hg];exact Nat.ne_of_gt (blk_lt (g:=gb190) (o:=.cells #[.int .i64 a0_0,.bool a0_1] 184 (0,0)) (by exact kZ_ BK190)) : gb191 ≠ gb190));clear BK190 HB;have BK190:=n0_;have HB:=n1_;have BK191:=n2_;have GW191:=n3_;have GE191:=n4_;have NB190_191:=n5_;have NB191_190:=n6_;clear n0_ n1_ n2_ n3_ n4_ n5_ n6_ hb hbox hg;have hnb17:=NB190_191.out;have hnc17:=NB191_190.out;have hcz18_0 : w16.cell? ⟨gb190,0,none⟩ = some (.int .i64 a0_0):=(kC_ BK190.out 0).trans rfl;have hcz18_1 : w16.cell? ⟨gb190,1,none⟩ = some (.bool a0_1):=(kC_ BK190.out 1).trans rfl;have hfz18_0:=kF_ BK190.out 0;have hfz18_1:=kF_ BK190.out 1;have hcz19_0 : w16.cell? ⟨gb191,0,none⟩ = some (.int .i64 a1_0):=(kC_ BK191.out 0).trans rfl;have hcz19_1 : w16.cell? ⟨gb191,1,none⟩ = some (.bool a1_1):=(kC_ BK191.out 1).trans rfl;have hfz19_0:=kF_ BK191.out 0;have hfz19_1:=kF_ BK191.out 1))
  go_ret
  exact ⟨by first | rfl | (simp [errW_none,errW_some] <;> rfl) | (simp [*, errW_none,errW_some] <;> rfl),by exact bZ_ HB⟩
def laws_eqByS.l0 : Nat → List (S184) → List (S184) → Int → Option (Bool)
 | 0,_,_,_=>none
 | k + 1,x0,x1,x5=>if x5 < (x0.length : Int) then (if 0 ≤ x5 then (if x5 < (x1.length : Int) then ((laws_eqBy.f ((rd_T184 x0 x5).f0) ((rd_T184 x0 x5).f1) ((rd_T184 x1 x5).f0) ((rd_T184 x1 x5).f1)).bind fun t194=>(if t194 = true then (laws_eqByS.l0 k x0 x1 (wrap64 (x5 + 1))) else (some false))) else (none)) else (none)) else (some true)
def laws_eqByS.f (k : Nat) (l0 : List (S184)) (l1 : List (S184)) : Option (Bool):=if (l0.length : Int) = (l1.length : Int) then (laws_eqByS.l0 k l0 l1 0) else (some false)
theorem laws_eqByS.mono_l : ∀ k,(∀ y0 y1 y2,LeO (laws_eqByS.l0 k y0 y1 y2) (laws_eqByS.l0 (k + 1) y0 y1 y2))
 | 0=>fun _ _ _ r h=>by simp [laws_eqByS.l0] at h
 | k + 1=>by
  have ih0:=laws_eqByS.mono_l k
  ·intro y0 y1 y2
   unfold laws_eqByS.l0
   repeat' first
   | (with_reducible exact ih0 _ _ _)
   | (with_reducible exact LeO.refl _)
   | (with_reducible exact LeO.none _)
   | (with_reducible refine LeO.ite ?_ ?_)
   | (with_reducible refine LeO.bind ?_ (fun _=>?_))
   | exact ih0 _ _ _
   | exact LeO.none _
   | refine LeO.ite ?_ ?_
   | refine LeO.bind ?_ (fun _=>?_)
theorem laws_eqByS.mono : ∀ a0 a1 k,LeO (laws_eqByS.f k a0 a1) (laws_eqByS.f (k + 1) a0 a1):=by
 intro a0 a1 k
 have ih0:=laws_eqByS.mono_l k
 unfold laws_eqByS.f
 repeat' first
   | (with_reducible exact ih0 _ _ _)
   | (with_reducible exact LeO.refl _)
   | (with_reducible exact LeO.none _)
   | (with_reducible refine LeO.ite ?_ ?_)
   | (with_reducible refine LeO.bind ?_ (fun _=>?_))
   | exact ih0 _ _ _
   | exact LeO.none _
   | refine LeO.ite ?_ ?_
   | refine LeO.bind ?_ (fun _=>?_)
def laws_eqByS.T6 : Bool × List (List Nat × List Nat):=(true,[([],[]),([],[]),([0,1],[0,1]),([2],[2]),([],[]),([],[]),([4,5],[4,5]),([6],[6]),([3,7],[3,7]),([8],[8])])
def laws_eqByS.B6 : List Nat:=[0,0,3,7,0,0,48,112,255,511]
theorem laws_eqByS.tab6 : rtab .any (opsOf Try.f142 6) = laws_eqByS.T6:=by kernel_rfl
theorem laws_eqByS.bits6 : waitsOk laws_eqByS.T6.2 laws_eqByS.B6 = true:=by kernel_rfl
set_option maxHeartbeats 8000000 in
set_option maxRecDepth 100000 in
theorem laws_eqByS.calls (k : Nat) (A0 : Option Addr) (c0 : Nat) (l0 : List (S184)) (A1 : Option Addr) (c1 : Nat) (l1 : List (S184)) (r : Bool) (w : World) (hr0 : Kd.C k184 w A0 l0.length l0) (hc0 : l0.length ≤ c0) (hr1 : Kd.C k184 w A1 l1.length l1) (hc1 : l1.length ≤ c1) (h : laws_eqByS.f k l0 l1 = some r) :
  Calls Try.prog 142 #[.slice A0 l0.length c0,.slice A1 l1.length c1] w fun e w'=>e = .returned (.bool r) ∧ Below w.heap.size w w':=by
 have hu184:=Try.underlying184
 have HR0:=aM_ hr0
 have HC0:=aM_ hc0
 clear hr0 hc0
 have HR1:=aM_ hr1
 have HC1:=aM_ hc1
 clear hr1 hc1
 have HB:=aM_ (Below.refl w.heap.size w)
 have H : (if (l0.length : Int) = (l1.length : Int) then (laws_eqByS.l0 k l0 l1 0) else (some false)) = some r:=h
 clear h
 by_cases c3 : (l0.length : Int) = (l1.length : Int)
 ·rw [if_pos c3] at H
  have c3b0 : ((l0.length : Int) == (l1.length : Int)) = true:=beq_iff_eq.mpr c3
  have c3b1 : ((l0.length : Int) != (l1.length : Int)) = false:=bne_eq_false_iff_eq.mpr c3
  have c3b2 : (l0.length == l1.length) = true:=by first | simpa using c3 | (simp at c3 ⊢;omega)
  clear c3
  have H':=aM_ H
  clear H
  go_enter Try.func142,Try.ntmps142
  go_wp2
  (try simp only [Act.put,sI_,sS_,sZ_])
  go_loopg [5] k (fun kq v5 w'=>∃ (x5_1 : Int),v5 = .int .i64 x5_1 ∧ Aside0 (laws_eqByS.l0 kq l0 l1 x5_1 = some r) ∧ Aside0 (kq ≤ k) ∧ Aside0 (Below w.heap.size w w'))
  case atStart=>exact ⟨(0),(by first | rfl | (simp;done) | (simp [*];done)),H', ⟨Nat.le_refl _⟩,⟨by exact bZ_ HB⟩⟩
  case round =>
   clear H'
   clear c3b0 c3b1 c3b2
   obtain ⟨x5_1,rfl,HA,HK1,HB⟩:=hrel
   cases gk with
   | zero=>exact absurd HA.out (by simp [laws_eqByS.l0])
   | succ k1 =>
    have H:=HA.out
    clear HA
    simp only [laws_eqByS.l0] at H
    by_cases c4 : x5_1 < (l0.length : Int)
    ·rw [if_pos c4] at H
     have c4b0 : decide (x5_1 < (l0.length : Int)) = true:=decide_eq_true c4
     clear c4
     by_cases c5 : 0 ≤ x5_1
     ·rw [if_pos c5] at H
      have c5b0 : decide (0 ≤ x5_1) = true:=decide_eq_true c5
      clear c5
      by_cases c6 : x5_1 < (l1.length : Int)
      ·rw [if_pos c6] at H
       have c6b0 : decide (x5_1 < (l1.length : Int)) = true:=decide_eq_true c6
       clear c6
       replace H:=oB_ H
       obtain ⟨t194,A70,H⟩:=H
       replace H : (if t194 = true then (laws_eqByS.l0 k1 l0 l1 (wrap64 (x5_1 + 1))) else (some false)) = some r:=H
       have A7:=aM_ A70
       clear A70
       by_cases c8 : t194 = true
       ·subst c8
        have H1 : (laws_eqByS.l0 k1 l0 l1 (wrap64 (x5_1 + 1))) = some r:=by rw [if_pos rfl] at H;exact H
        clear H
        have H:=H1
        clear H1
        have H':=aM_ H
        clear H
        try go_wp2
        have n0_:=aM_ (bD_ HB.out)
        clear HB
        have HB:=n0_
        clear n0_
        have p192 : 0 ≤ (x5_1 : Int):=oT_ (by first | (with_reducible assumption) | assumption)
        have q192 : x5_1 < (l0.length : Int):=oT_ (by first | (with_reducible assumption) | assumption)
        obtain ⟨ad192,e192,hx192_0,hx192_1⟩:=at_T184 HR0.out x5_1 p192 q192
        have hw192_1:=hx192_1
        have hw192_0:=hx192_0
        cases e192
        replace hx192_0:=(HB.out.cell (wL_ w _ hx192_0)).trans hx192_0
        replace hx192_1:=(HB.out.cell (wL_ w _ hx192_1)).trans hx192_1
        replace p192:=eq_true p192
        replace q192:=eq_true q192
        have p193 : 0 ≤ (x5_1 : Int):=oT_ (by first | (with_reducible assumption) | assumption)
        have q193 : x5_1 < (l1.length : Int):=oT_ (by first | (with_reducible assumption) | assumption)
        obtain ⟨ad193,e193,hx193_0,hx193_1⟩:=at_T184 HR1.out x5_1 p193 q193
        have hw193_1:=hx193_1
        have hw193_0:=hx193_0
        cases e193
        replace hx193_0:=(HB.out.cell (wL_ w _ hx193_0)).trans hx193_0
        replace hx193_1:=(HB.out.cell (wL_ w _ hx193_1)).trans hx193_1
        replace p193:=eq_true p193
        replace q193:=eq_true q193
        refine start_ (n:=10) (S:=fun w'=>w'.cell? (ad192.add ((x5_1).toNat * 2)) = some (.int .i64 ((rd_T184 l0 x5_1).f0)) ∧ w'.cell? ⟨(ad192.add ((x5_1).toNat * 2)).block,(ad192.add ((x5_1).toNat * 2)).off + 1,none⟩ = some (.bool ((rd_T184 l0 x5_1).f1)) ∧ w'.cell? (ad193.add ((x5_1).toNat * 2)) = some (.int .i64 ((rd_T184 l1 x5_1).f0)) ∧ w'.cell? ⟨(ad193.add ((x5_1).toNat * 2)).block,(ad193.add ((x5_1).toNat * 2)).off + 1,none⟩ = some (.bool ((rd_T184 l1 x5_1).f1))) (ds:=[]) (tb_ 0 10) (by kernel_rfl) rfl rfl ⟨((HB.out.cell (wL_ w _ hw192_0)).trans hw192_0),((HB.out.cell (wL_ w _ hw192_1)).trans hw192_1),((HB.out.cell (wL_ w _ hw193_0)).trans hw193_0),((HB.out.cell (wL_ w _ hw193_1)).trans hw193_1)⟩ (fun hHeld=>?_);refine with_tabW laws_eqByS.tab6 laws_eqByS.bits6 (fun HT_ HW_=>?_)
        generalize wr.drew = w9 at HB hx192_0 hx192_1 hx193_0 hx193_1 hHeld ⊢
        refine pure_ (i:=0) (N:=some 17) (v:=?_) (a':=?_) (tb_ 1 9) rfl rfl (any_of HT_.out (by kernel_rfl)) (fun _ _ _ h=>h) (Or.inl ⟨by rfl,?_⟩) ?_ ?_
        rotate_left
        ·intro w'
         go_simp
         with_reducible rfl
        rotate_left
        ·simp only [Act.put,sI_,sZ_,sS_,i64_w,i32_w]
         rfl
        refine pure_ (i:=1) (N:=some 18) (v:=?_) (a':=?_) (tb_ 2 8) rfl rfl (any_of HT_.out (by kernel_rfl)) (fun _ _ _ h=>h) (Or.inl ⟨by rfl,?_⟩) ?_ ?_
        rotate_left
        ·intro w'
         go_simp
         with_reducible rfl
        rotate_left
        ·simp only [Act.put,sI_,sZ_,sS_,i64_w,i32_w]
         rfl
        refine pure_ (i:=2) (N:=some 19) (v:=?_) (a':=?_) (tb_ 3 7) rfl rfl (any_of HT_.out (by kernel_rfl)) (fun _ _ _ h=>h) (Or.inl ⟨by rfl,?_⟩) ?_ ?_
        rotate_left
        ·intro w'
         go_simp
         with_reducible rfl
        rotate_left
        ·simp only [Act.put,sI_,sZ_,sS_,i64_w,i32_w]
         rfl
        refine pure_ (i:=4) (N:=some 21) (v:=?_) (a':=?_) #[true,true,true,false,true,false,false,false,false,false] rfl rfl (any_of HT_.out (by kernel_rfl)) (fun _ _ _ h=>h) (Or.inl ⟨by rfl,?_⟩) ?_ ?_
        rotate_left
        ·intro w'
         go_simp
         with_reducible rfl
        rotate_left
        ·simp only [Act.put,sI_,sZ_,sS_,i64_w,i32_w]
         rfl
        refine pure_ (i:=5) (N:=some 22) (v:=?_) (a':=?_) #[true,true,true,false,true,true,false,false,false,false] rfl rfl (any_of HT_.out (by kernel_rfl)) (fun _ _ _ h=>h) (Or.inl ⟨by rfl,?_⟩) ?_ ?_
        rotate_left
        ·intro w'
         go_simp
         with_reducible rfl
        rotate_left
        ·simp only [Act.put,sI_,sZ_,sS_,i64_w,i32_w]
         rfl
        refine pure_ (i:=6) (N:=some 23) (v:=?_) (a':=?_) #[true,true,true,false,true,true,true,false,false,false] rfl rfl (any_of HT_.out (by kernel_rfl)) (fun _ _ _ h=>h) (Or.inl ⟨by rfl,?_⟩) ?_ ?_
        rotate_left
        ·intro w'
         go_simp
         with_reducible rfl
        rotate_left
        ·simp only [Act.put,sI_,sZ_,sS_,i64_w,i32_w]
         rfl
        refine take_ (i:=3) (N:=some 20) (v:=?_) (a':=?_) (tb_ 7 3) rfl rfl (take_ofW HT_.out HW_.out (by kernel_rfl)) (fun _ _ _ h=>h) (Or.inl ⟨by rfl,?_⟩) hHeld ?_ ?_
        rotate_left
        ·rintro w' ⟨s0,s1,s2,s3⟩
         go_simp
         with_reducible rfl
        rotate_left
        ·simp only [Act.put,sI_,sZ_,sS_,i64_w,i32_w]
         rfl
        refine take_ (i:=7) (N:=some 24) (v:=?_) (a':=?_) (tb_ 8 2) rfl rfl (take_ofW HT_.out HW_.out (by kernel_rfl)) (fun _ _ _ h=>h) (Or.inl ⟨by rfl,?_⟩) hHeld ?_ ?_
        rotate_left
        ·rintro w' ⟨s0,s1,s2,s3⟩
         go_simp
         with_reducible rfl
        rotate_left
        ·simp only [Act.put,sI_,sZ_,sS_,i64_w,i32_w]
         rfl
        refine one_ (i:=8) (N:=some 25) (tb_ 9 1) rfl rfl (one_of HT_.out (by kernel_rfl)) (by decide) (fun K hK=>?_)
        refine goes_ Try.func177 (by kernel_rfl) rfl #[.agg #[.int .i64 ((rd_T184 l0 x5_1).f0),.bool ((rd_T184 l0 x5_1).f1)],.agg #[.int .i64 ((rd_T184 l1 x5_1).f0),.bool ((rd_T184 l1 x5_1).f1)]] (by rfl) rfl rfl (by (try simp only [mA_,mC_,mN_]);first | done | rfl | (simp only [lD_,lT_];rfl)) ?_
        with_reducible refine (laws_eqBy.calls ((rd_T184 l0 x5_1).f0) ((rd_T184 l0 x5_1).f1) ((rd_T184 l1 x5_1).f0) ((rd_T184 l1 x5_1).f1) true _ A7.out).mono ?_
        rintro e w10 ⟨rfl,hb⟩
        refine ⟨_,rfl,?_⟩
        have n0_:=aM_ (bT_ (by exact bZ_ HB) hb)
        clear HB
        have HB:=n0_
        clear n0_ hb
        skip
        skip
        skip
        refine hK.out _ _ ⟨((HB.out.cell (wL_ w _ hw192_0)).trans hw192_0),((HB.out.cell (wL_ w _ hw192_1)).trans hw192_1),((HB.out.cell (wL_ w _ hw193_0)).trans hw193_0),((HB.out.cell (wL_ w _ hw193_1)).trans hw193_1)⟩ (fun hHeld=>?_)
        clear hK K
        refine norm_ (a':=?_) ?_ ?_
        rotate_left
        ·show Act.put _ (some 25) _ = _
         simp only [Act.put,sI_,sZ_,sS_,i64_w,i32_w]
         rfl
        refine pure_ (i:=9) (N:=some 26) (v:=?_) (a':=?_) (tb_ 10 0) rfl rfl (any_of HT_.out (by kernel_rfl)) (fun _ _ _ h=>h) (Or.inl ⟨by rfl,?_⟩) ?_ ?_
        rotate_left
        ·intro w'
         go_simp
         with_reducible rfl
        rotate_left
        ·simp only [Act.put,sI_,sZ_,sS_,i64_w,i32_w]
         rfl
        refine done_ (done_of HT_.out (by kernel_rfl)) ?_
        try go_wp2
        go_roundg k1
        case measure=>have:=HK1.out;omega
        case rel=>exact ⟨(wrap64 (x5_1 + 1)),(by first | rfl | (simp;done) | (simp [*];done)),H', ⟨by have:=HK1.out;omega⟩,⟨by exact bZ_ HB⟩⟩
       ·replace c8:=Bool.eq_false_iff.mpr c8
        subst c8
        have H1 : (some false) = some r:=by rw [if_neg (show ¬ (false = true) by decide)] at H;exact H
        clear H
        have H:=H1
        clear H1
        obtain rfl:=Option.some.inj H
        try go_wp2
        have n0_:=aM_ (bD_ HB.out)
        clear HB
        have HB:=n0_
        clear n0_
        have p192 : 0 ≤ (x5_1 : Int):=oT_ (by first | (with_reducible assumption) | assumption)
        have q192 : x5_1 < (l0.length : Int):=oT_ (by first | (with_reducible assumption) | assumption)
        obtain ⟨ad192,e192,hx192_0,hx192_1⟩:=at_T184 HR0.out x5_1 p192 q192
        have hw192_1:=hx192_1
        have hw192_0:=hx192_0
        cases e192
        replace hx192_0:=(HB.out.cell (wL_ w _ hx192_0)).trans hx192_0
        replace hx192_1:=(HB.out.cell (wL_ w _ hx192_1)).trans hx192_1
        replace p192:=eq_true p192
        replace q192:=eq_true q192
        have p193 : 0 ≤ (x5_1 : Int):=oT_ (by first | (with_reducible assumption) | assumption)
        have q193 : x5_1 < (l1.length : Int):=oT_ (by first | (with_reducible assumption) | assumption)
        obtain ⟨ad193,e193,hx193_0,hx193_1⟩:=at_T184 HR1.out x5_1 p193 q193
        have hw193_1:=hx193_1
        have hw193_0:=hx193_0
        cases e193
        replace hx193_0:=(HB.out.cell (wL_ w _ hx193_0)).trans hx193_0
        replace hx193_1:=(HB.out.cell (wL_ w _ hx193_1)).trans hx193_1
        replace p193:=eq_true p193
        replace q193:=eq_true q193
        refine start_ (n:=10) (S:=fun w'=>w'.cell? (ad192.add ((x5_1).toNat * 2)) = some (.int .i64 ((rd_T184 l0 x5_1).f0)) ∧ w'.cell? ⟨(ad192.add ((x5_1).toNat * 2)).block,(ad192.add ((x5_1).toNat * 2)).off + 1,none⟩ = some (.bool ((rd_T184 l0 x5_1).f1)) ∧ w'.cell? (ad193.add ((x5_1).toNat * 2)) = some (.int .i64 ((rd_T184 l1 x5_1).f0)) ∧ w'.cell? ⟨(ad193.add ((x5_1).toNat * 2)).block,(ad193.add ((x5_1).toNat * 2)).off + 1,none⟩ = some (.bool ((rd_T184 l1 x5_1).f1))) (ds:=[]) (tb_ 0 10) (by kernel_rfl) rfl rfl ⟨((HB.out.cell (wL_ w _ hw192_0)).trans hw192_0),((HB.out.cell (wL_ w _ hw192_1)).trans hw192_1),((HB.out.cell (wL_ w _ hw193_0)).trans hw193_0),((HB.out.cell (wL_ w _ hw193_1)).trans hw193_1)⟩ (fun hHeld=>?_);refine with_tabW laws_eqByS.tab6 laws_eqByS.bits6 (fun HT_ HW_=>?_)
        generalize wr.drew = w11 at HB hx192_0 hx192_1 hx193_0 hx193_1 hHeld ⊢
        refine pure_ (i:=0) (N:=some 17) (v:=?_) (a':=?_) (tb_ 1 9) rfl rfl (any_of HT_.out (by kernel_rfl)) (fun _ _ _ h=>h) (Or.inl ⟨by rfl,?_⟩) ?_ ?_
        rotate_left
        ·intro w'
         go_simp
         with_reducible rfl
        rotate_left
        ·simp only [Act.put,sI_,sZ_,sS_,i64_w,i32_w]
         rfl
        refine pure_ (i:=1) (N:=some 18) (v:=?_) (a':=?_) (tb_ 2 8) rfl rfl (any_of HT_.out (by kernel_rfl)) (fun _ _ _ h=>h) (Or.inl ⟨by rfl,?_⟩) ?_ ?_
        rotate_left
        ·intro w'
         go_simp
         with_reducible rfl
        rotate_left
        ·simp only [Act.put,sI_,sZ_,sS_,i64_w,i32_w]
         rfl
        refine pure_ (i:=2) (N:=some 19) (v:=?_) (a':=?_) (tb_ 3 7) rfl rfl (any_of HT_.out (by kernel_rfl)) (fun _ _ _ h=>h) (Or.inl ⟨by rfl,?_⟩) ?_ ?_
        rotate_left
        ·intro w'
         go_simp
         with_reducible rfl
        rotate_left
        ·simp only [Act.put,sI_,sZ_,sS_,i64_w,i32_w]
         rfl
        refine pure_ (i:=4) (N:=some 21) (v:=?_) (a':=?_) #[true,true,true,false,true,false,false,false,false,false] rfl rfl (any_of HT_.out (by kernel_rfl)) (fun _ _ _ h=>h) (Or.inl ⟨by rfl,?_⟩) ?_ ?_
        rotate_left
        ·intro w'
         go_simp
         with_reducible rfl
        rotate_left
        ·simp only [Act.put,sI_,sZ_,sS_,i64_w,i32_w]
         rfl
        refine pure_ (i:=5) (N:=some 22) (v:=?_) (a':=?_) #[true,true,true,false,true,true,false,false,false,false] rfl rfl (any_of HT_.out (by kernel_rfl)) (fun _ _ _ h=>h) (Or.inl ⟨by rfl,?_⟩) ?_ ?_
        rotate_left
        ·intro w'
         go_simp
         with_reducible rfl
        rotate_left
        ·simp only [Act.put,sI_,sZ_,sS_,i64_w,i32_w]
         rfl
        refine pure_ (i:=6) (N:=some 23) (v:=?_) (a':=?_) #[true,true,true,false,true,true,true,false,false,false] rfl rfl (any_of HT_.out (by kernel_rfl)) (fun _ _ _ h=>h) (Or.inl ⟨by rfl,?_⟩) ?_ ?_
        rotate_left
        ·intro w'
         go_simp
         with_reducible rfl
        rotate_left
        ·simp only [Act.put,sI_,sZ_,sS_,i64_w,i32_w]
         rfl
        refine take_ (i:=3) (N:=some 20) (v:=?_) (a':=?_) (tb_ 7 3) rfl rfl (take_ofW HT_.out HW_.out (by kernel_rfl)) (fun _ _ _ h=>h) (Or.inl ⟨by rfl,?_⟩) hHeld ?_ ?_
        rotate_left
        ·rintro w' ⟨s0,s1,s2,s3⟩
         go_simp
         with_reducible rfl
        rotate_left
        ·simp only [Act.put,sI_,sZ_,sS_,i64_w,i32_w]
         rfl
        refine take_ (i:=7) (N:=some 24) (v:=?_) (a':=?_) (tb_ 8 2) rfl rfl (take_ofW HT_.out HW_.out (by kernel_rfl)) (fun _ _ _ h=>h) (Or.inl ⟨by rfl,?_⟩) hHeld ?_ ?_
        rotate_left
        ·rintro w' ⟨s0,s1,s2,s3⟩
         go_simp
         with_reducible rfl
        rotate_left
        ·simp only [Act.put,sI_,sZ_,sS_,i64_w,i32_w]
         rfl
        refine one_ (i:=8) (N:=some 25) (tb_ 9 1) rfl rfl (one_of HT_.out (by kernel_rfl)) (by decide) (fun K hK=>?_)
        refine goes_ Try.func177 (by kernel_rfl) rfl #[.agg #[.int .i64 ((rd_T184 l0 x5_1).f0),.bool ((rd_T184 l0 x5_1).f1)],.agg #[.int .i64 ((rd_T184 l1 x5_1).f0),.bool ((rd_T184 l1 x5_1).f1)]] (by rfl) rfl rfl (by (try simp only [mA_,mC_,mN_]);first | done | rfl | (simp only [lD_,lT_];rfl)) ?_
        with_reducible refine (laws_eqBy.calls ((rd_T184 l0 x5_1).f0) ((rd_T184 l0 x5_1).f1) ((rd_T184 l1 x5_1).f0) ((rd_T184 l1 x5_1).f1) false _ A7.out).mono ?_
        rintro e w12 ⟨rfl,hb⟩
        refine ⟨_,rfl,?_⟩
        have n0_:=aM_ (bT_ (by exact bZ_ HB) hb)
        clear HB
        have HB:=n0_
        clear n0_ hb
        skip
        skip
        skip
        refine hK.out _ _ ⟨((HB.out.cell (wL_ w _ hw192_0)).trans hw192_0),((HB.out.cell (wL_ w _ hw192_1)).trans hw192_1),((HB.out.cell (wL_ w _ hw193_0)).trans hw193_0),((HB.out.cell (wL_ w _ hw193_1)).trans hw193_1)⟩ (fun hHeld=>?_)
        clear hK K
        refine norm_ (a':=?_) ?_ ?_
        rotate_left
        ·show Act.put _ (some 25) _ = _
         simp only [Act.put,sI_,sZ_,sS_,i64_w,i32_w]
         rfl
        refine pure_ (i:=9) (N:=some 26) (v:=?_) (a':=?_) (tb_ 10 0) rfl rfl (any_of HT_.out (by kernel_rfl)) (fun _ _ _ h=>h) (Or.inl ⟨by rfl,?_⟩) ?_ ?_
        rotate_left
        ·intro w'
         go_simp
         with_reducible rfl
        rotate_left
        ·simp only [Act.put,sI_,sZ_,sS_,i64_w,i32_w]
         rfl
        refine done_ (done_of HT_.out (by kernel_rfl)) ?_
        try go_wp2
        go_ret
        exact ⟨by first | rfl | (simp [errW_none,errW_some] <;> rfl) | (simp [*, errW_none,errW_some] <;> rfl),by exact bZ_ HB⟩
      ·rw [if_neg c6] at H
       exact absurd H (by simp)
     ·rw [if_neg c5] at H
      exact absurd H (by simp)
    ·rw [if_neg c4] at H
     have c4b0 : decide (x5_1 < (l0.length : Int)) = false:=decide_eq_false c4
     clear c4
     obtain rfl:=Option.some.inj H
     go_wp2
     go_ret
     exact ⟨by first | rfl | (simp [errW_none,errW_some] <;> rfl) | (simp [*, errW_none,errW_some] <;> rfl),by exact bZ_ HB⟩
 ·rw [if_neg c3] at H
  have c3b0 : ((l0.length : Int) == (l1.length : Int)) = false:=beq_eq_false_iff_ne.mpr c3
  have c3b1 : ((l0.length : Int) != (l1.length : Int)) = true:=bne_iff_ne.mpr c3
  have c3b2 : (l0.length == l1.length) = false:=by first | simpa using c3 | (simp at c3 ⊢;omega)
  obtain rfl:=Option.some.inj H
  go_enter Try.func142,Try.ntmps142
  go_wp2
  go_ret
  exact ⟨by first | rfl | (simp [errW_none,errW_some] <;> rfl) | (simp [*, errW_none,errW_some] <;> rfl),by exact bZ_ HB⟩
end Go.Proofs.Ytllgmgpfdnofmaa.PFnExactSameDef
