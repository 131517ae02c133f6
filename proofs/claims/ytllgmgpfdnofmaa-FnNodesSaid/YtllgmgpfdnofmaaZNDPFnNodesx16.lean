import Derived.Test.YtllgmgpfdnofmaaZNDPFnNodesx0
import Derived.Test.YtllgmgpfdnofmaaZNDPFnNodesx15
namespace Go.Proofs.Ytllgmgpfdnofmaa.PFnNodes
open Go.RowKit Go.Proofs.YtllgmgpfdnofmaaW.PrintWords Go.Proofs.YtllgmgpfdnofmaaW.PrintLast Go.Proofs.YtllgmgpfdnofmaaW.PrintMore Go.Proofs.Ytllgmgpfdnofmaa.Xtra
attribute [local go_sem] max2_int min2_int max_two min_two max_three min_three max_four min_four str_leq str_gtr str_geq setCell_drewN cell_set2 cell_set3   -- for this text's walks alone
set_option linter.unusedVariables false
set_option linter.unusedSimpArgs false
def impl_SameNode.f (k : Nat) (a0_0 : Bool) (l0_1 : List ByteArray) (l0_2 : List ByteArray) (l0_3 : List Int) (a1_0 : Bool) (l1_1 : List ByteArray) (l1_2 : List ByteArray) (l1_3 : List Int) : Option (Bool):=if (a0_0 == a1_0) = true then ((impl_sameTexts.f k l0_1 l1_1).bind fun t488=>(if t488 = true then ((impl_sameTexts.f k l0_2 l1_2).bind fun t489=>(if t489 = true then ((impl_sameInts.f k l0_3 l1_3).bind fun t490=>(some t490)) else (some false))) else (some false))) else (some false)
theorem impl_SameNode.mono : ∀ a0 a1 a2 a3 a4 a5 a6 a7 k,LeO (impl_SameNode.f k a0 a1 a2 a3 a4 a5 a6 a7) (impl_SameNode.f (k + 1) a0 a1 a2 a3 a4 a5 a6 a7):=by
 intro a0 a1 a2 a3 a4 a5 a6 a7 k
 unfold impl_SameNode.f
 repeat' first
   | (with_reducible exact impl_sameInts.mono _ _ _)
   | (with_reducible exact impl_sameTexts.mono _ _ _)
   | (with_reducible exact LeO.refl _)
   | (with_reducible exact LeO.none _)
   | (with_reducible refine LeO.ite ?_ ?_)
   | (with_reducible refine LeO.bind ?_ (fun _=>?_))
   | exact impl_sameInts.mono _ _ _
   | exact impl_sameTexts.mono _ _ _
   | exact LeO.none _
   | refine LeO.ite ?_ ?_
   | refine LeO.bind ?_ (fun _=>?_)
set_option maxHeartbeats 8000000 in
set_option maxRecDepth 100000 in
theorem impl_SameNode.calls (k : Nat) (a0_0 : Bool) (A0_1 : Option Addr) (c0_1 : Nat) (l0_1 : List ByteArray) (A0_2 : Option Addr) (c0_2 : Nat) (l0_2 : List ByteArray) (A0_3 : Option Addr) (c0_3 : Nat) (l0_3 : List Int) (a1_0 : Bool) (A1_1 : Option Addr) (c1_1 : Nat) (l1_1 : List ByteArray) (A1_2 : Option Addr) (c1_2 : Nat) (l1_2 : List ByteArray) (A1_3 : Option Addr) (c1_3 : Nat) (l1_3 : List Int) (r : Bool) (w : World) (hr0_1 : Kd.C Kd.string w A0_1 l0_1.length l0_1) (hc0_1 : l0_1.length ≤ c0_1) (hr0_2 : Kd.C Kd.string w A0_2 l0_2.length l0_2) (hc0_2 : l0_2.length ≤ c0_2) (hr0_3 : Kd.C (Kd.int .i64) w A0_3 l0_3.length l0_3) (hc0_3 : l0_3.length ≤ c0_3) (hr1_1 : Kd.C Kd.string w A1_1 l1_1.length l1_1) (hc1_1 : l1_1.length ≤ c1_1) (hr1_2 : Kd.C Kd.string w A1_2 l1_2.length l1_2) (hc1_2 : l1_2.length ≤ c1_2) (hr1_3 : Kd.C (Kd.int .i64) w A1_3 l1_3.length l1_3) (hc1_3 : l1_3.length ≤ c1_3) (h : impl_SameNode.f k a0_0 l0_1 l0_2 l0_3 a1_0 l1_1 l1_2 l1_3 = some r) :
  Calls Try.prog 33 #[.agg #[.bool a0_0,.slice A0_1 l0_1.length c0_1,.slice A0_2 l0_2.length c0_2,.slice A0_3 l0_3.length c0_3],.agg #[.bool a1_0,.slice A1_1 l1_1.length c1_1,.slice A1_2 l1_2.length c1_2,.slice A1_3 l1_3.length c1_3]] w fun e w'=>e = .returned (.bool r) ∧ Below w.heap.size w w':=by
 have hu29:=Try.underlying29
 have HR0_1:=aM_ hr0_1
 have HC0_1:=aM_ hc0_1
 clear hr0_1 hc0_1
 have HR0_2:=aM_ hr0_2
 have HC0_2:=aM_ hc0_2
 clear hr0_2 hc0_2
 have HR0_3:=aM_ hr0_3
 have HC0_3:=aM_ hc0_3
 clear hr0_3 hc0_3
 have HR1_1:=aM_ hr1_1
 have HC1_1:=aM_ hc1_1
 clear hr1_1 hc1_1
 have HR1_2:=aM_ hr1_2
 have HC1_2:=aM_ hc1_2
 clear hr1_2 hc1_2
 have HR1_3:=aM_ hr1_3
 have HC1_3:=aM_ hc1_3
 clear hr1_3 hc1_3
 have HB:=aM_ (Below.refl w.heap.size w)
 have H : (if (a0_0 == a1_0) = true then ((impl_sameTexts.f k l0_1 l1_1).bind fun t488=>(if t488 = true then ((impl_sameTexts.f k l0_2 l1_2).bind fun t489=>(if t489 = true then ((impl_sameInts.f k l0_3 l1_3).bind fun t490=>(some t490)) else (some false))) else (some false))) else (some false)) = some r:=h
 clear h
 by_cases c3 : (a0_0 == a1_0) = true
 ·rw [if_pos c3] at H
  have c3b0 : (a0_0 == a1_0) = true:=c3
  (try (have c3b1 : decide (a0_0 = a1_0) = true:=by simpa using c3))
  (try (have c3b2 : (a0_0 == a1_0) = true:=by simpa using c3))
  clear c3
  replace H:=oB_ H
  obtain ⟨t488,A40,H⟩:=H
  replace H : (if t488 = true then ((impl_sameTexts.f k l0_2 l1_2).bind fun t489=>(if t489 = true then ((impl_sameInts.f k l0_3 l1_3).bind fun t490=>(some t490)) else (some false))) else (some false)) = some r:=H
  have A4:=aM_ A40
  clear A40
  by_cases c5 : t488 = true
  ·subst c5
   have H1 : ((impl_sameTexts.f k l0_2 l1_2).bind fun t489=>(if t489 = true then ((impl_sameInts.f k l0_3 l1_3).bind fun t490=>(some t490)) else (some false))) = some r:=by rw [if_pos rfl] at H;exact H
   clear H
   have H:=H1
   clear H1
   replace H:=oB_ H
   obtain ⟨t489,A60,H⟩:=H
   replace H : (if t489 = true then ((impl_sameInts.f k l0_3 l1_3).bind fun t490=>(some t490)) else (some false)) = some r:=H
   have A6:=aM_ A60
   clear A60
   by_cases c7 : t489 = true
   ·subst c7
    have H1 : ((impl_sameInts.f k l0_3 l1_3).bind fun t490=>(some t490)) = some r:=by rw [if_pos rfl] at H;exact H
    clear H
    have H:=H1
    clear H1
    replace H:=oB_ H
    obtain ⟨t490,A80,H⟩:=H
    replace H : (some t490) = some r:=H
    have A8:=aM_ A80
    clear A80
    obtain rfl:=Option.some.inj H
    go_enter Try.func33,Try.ntmps33
    go_wp2_with (first | ((with_reducible refine gate_dst (N:=2) rfl ?_);refine box_event ?hg (N:=2) ?hd (cs:=#[.bool a0_0,.slice A0_1 l0_1.length c0_1,.slice A0_2 l0_2.length c0_2,.slice A0_3 l0_3.length c0_3]) (t:=29) ?hr ?_;(case hd=>rfl);(case hg=>rfl);(case hr=>first | (go_simp;done) | (go_simp;rfl));intro gb486 hg w9 hbox hb;have n0_:=aM_ (bT_ (by exact bZ_ HB) hb);have n1_:=aM_ (hbox);have n2_:=aM_ ((by rw [hg];exact (bS_ (by exact bZ_ HB)) : w.heap.size ≤ gb486));have n3_:=aM_ ((by rw [hg];exact (bS_ (by exact bZ_ HB)) : w.heap.size ≤ gb486));clear HB;have HB:=n0_;have BK486:=n1_;have GW486:=n2_;have GE486:=n3_;clear n0_ n1_ n2_ n3_ hb hbox hg) | ((with_reducible refine gate_dst (N:=3) rfl ?_);refine box_event ?hg (N:=3) ?hd (cs:=#[.bool a1_0,.slice A1_1 l1_1.length c1_1,.slice A1_2 l1_2.length c1_2,.slice A1_3 l1_3.length c1_3]) (t:=29) ?hr ?_;(case hd=>rfl);(case hg=>rfl);(case hr=>first | (go_simp;done) | (go_simp;rfl));intro gb487 hg w10 hbox hb;have n0_:=aM_ (blk_below (g:=gb486) (o:=.cells #[.bool a0_0,.slice A0_1 l0_1.length c0_1,.slice A0_2 l0_2.length c0_2,.slice A0_3 l0_3.length c0_3] 29 (0,0)) (by exact kZ_ BK486) hb);have n1_:=aM_ (bT_ (by exact bZ_ HB) hb);have n2_:=aM_ (hbox);have n3_:=aM_ ((by rw [hg];exact (bS_ (by exact bZ_ HB)) : w.heap.size ≤ gb487));have n4_:=aM_ ((by rw [hg];exact (bS_ (by exact bZ_ HB)) : w.heap.size ≤ gb487));have n5_:=aM_ ((by rw [hg];exact Nat.ne_of_lt (blk_lt (g:=gb486) (o:=.cells #[.bool a0_0,.slice A0_1 l0_1.length c0_1,.slice A0_2 l0_2.length c0_2,.slice A0_3 l0_3.length c0_3] 29 (0,0)) (by exact kZ_ BK486)) : gb486 ≠ gb487));have n6_:=aM_ ((by rw [hg];exact Nat.ne_of_gt (blk_lt (g:=gb486) (o:=.cells #[.bool a0_0,.slice A0_1 l0_1.length c0_1,.slice A0_2 l0_2.length c0_2,.slice A0_3 l0_3.length c0_3] 29 (0,0)) (by exact kZ_ BK486)) : gb487 ≠ gb486));clear BK486 HB;have BK486:=n0_;have HB:=n1_;have BK487:=n2_;have GW487:=n3_;have GE487:=n4_;have NB486_487:=n5_;have NB487_486:=n6_;clear n0_ n1_ n2_ n3_ n4_ n5_ n6_ hb hbox hg;have hnb11:=NB486_487.out;have hnc11:=NB487_486.out;have hcz12_0 : w10.cell? ⟨gb486,0,none⟩ = some (.bool a0_0):=(kC_ BK486.out 0).trans rfl;have hcz12_1 : w10.cell? ⟨gb486,1,none⟩ = some (.slice A0_1 l0_1.length c0_1):=(kC_ BK486.out 1).trans rfl;have hcz12_2 : w10.cell? ⟨gb486,2,none⟩ = some (.slice A0_2 l0_2.length c0_2):=(kC_ BK486.out 2).trans rfl;have hcz12_3 : w10.cell? ⟨gb486,3,none⟩ = some (.slice A0_3 l0_3.length c0_3):=(kC_ BK486.out 3).trans rfl;have hfz12_0:=kF_ BK486.out 0;have hfz12_1:=kF_ BK486.out 1;have hfz12_2:=kF_ BK486.out 2;have hfz12_3:=kF_ BK486.out 3;have hcz13_0 : w10.cell? ⟨gb487,0,none⟩ = some (.bool a1_0):=(kC_ BK487.out 0).trans rfl;have hcz13_1 : w10.cell? ⟨gb487,1,none⟩ = some (.slice A1_1 l1_1.length c1_1):=(kC_ BK487.out 1).trans rfl;have hcz13_2 : w10.cell? ⟨gb487,2,none⟩ = some (.slice A1_2 l1_2.length c1_2):=(kC_ BK487.out 2).trans rfl;have hcz13_3 : w10.cell? ⟨gb487,3,none⟩ = some (.slice A1_3 l1_3.length c1_3):=(kC_ BK487.out 3).trans rfl;have hfz13_0:=kF_ BK487.out 0;have hfz13_1:=kF_ BK487.out 1;have hfz13_2:=kF_ BK487.out 2;have hfz13_3:=kF_ BK487.out 3) | (go_at_call 90;(with_reducible refine (impl_sameTexts.calls k _ _ l0_1 _ _ l1_1 true _ ?side1 ?side2 ?side3 ?side4 A4.out).mono ?_);(case side1=>repeat (first | exact (Kd.C_below HR0_1.out HB.out) | (with_reducible refine cA_ ?_ _) | (with_reducible refine cN_ ?_ _) | (with_reducible refine cD_ ?_)));(case side2=>exact HC0_1.out);(case side3=>repeat (first | exact (Kd.C_below HR1_1.out HB.out) | (with_reducible refine cA_ ?_ _) | (with_reducible refine cN_ ?_ _) | (with_reducible refine cD_ ?_)));(case side4=>exact HC1_1.out);rintro e w' ⟨rfl,⟨nd,rfl⟩⟩) | (go_at_call 90;(with_reducible refine (impl_sameTexts.calls k _ _ l0_2 _ _ l1_2 true _ ?side1 ?side2 ?side3 ?side4 A6.out).mono ?_);(case side1=>repeat (first | exact (Kd.C_below HR0_2.out (by exact bZ_ HB)) | (with_reducible refine cA_ ?_ _) | (with_reducible refine cN_ ?_ _) | (with_reducible refine cD_ ?_)));(case side2=>exact HC0_2.out);(case side3=>repeat (first | exact (Kd.C_below HR1_2.out (by exact bZ_ HB)) | (with_reducible refine cA_ ?_ _) | (with_reducible refine cN_ ?_ _) | (with_reducible refine cD_ ?_)));(case side4=>exact HC1_2.out);rintro e w' ⟨rfl,⟨nd,rfl⟩⟩) | (go_at_call 91;(with_reducible refine (impl_sameInts.calls k _ _ l0_3 _ _ l1_3 t490 _ ?side1 ?side2 ?side3 ?side4 A8.out).mono ?_);(case side1=>repeat (first | exact (Kd.C_below HR0_3.out (by exact bZ_ HB)) | (with_reducible refine cA_ ?_ _) | (with_reducible refine cN_ ?_ _) | (with_reducible refine cD_ ?_)));(case side2=>exact HC0_3.out);(case side3=>repeat (first | exact (Kd.C_below HR1_3.out (by exact bZ_ HB)) | (with_reducible refine cA_ ?_ _) | (with_reducible refine cN_ ?_ _) | (with_reducible refine cD_ ?_)));(case side4=>exact HC1_3.out);rintro e w' ⟨rfl,⟨nd,rfl⟩⟩))
    go_ret
    exact ⟨by first | rfl | (simp [errW_none,errW_some] <;> rfl) | (simp [*, errW_none,errW_some] <;> rfl),by exact bZ_ HB⟩
   ·replace c7:=Bool.eq_false_iff.mpr c7
    subst c7
    have H1 : (some false) = some r:=by rw [if_neg (show ¬ (false = true) by decide)] at H;exact H
    clear H
    have H:=H1
    clear H1
    obtain rfl:=Option.some.inj H
    go_enter Try.func33,Try.ntmps33
    go_wp2_with (first | ((with_reducible refine gate_dst (N:=2) rfl ?_);refine box_event ?hg (N:=2) ?hd (cs:=#[.bool a0_0,.slice A0_1 l0_1.length c0_1,.slice A0_2 l0_2.length c0_2,.slice A0_3 l0_3.length c0_3]) (t:=29) ?hr ?_;(case hd=>rfl);(case hg=>rfl);(case hr=>first | (go_simp;done) | (go_simp;rfl));intro gb486 hg w14 hbox hb;have n0_:=aM_ (bT_ (by exact bZ_ HB) hb);have n1_:=aM_ (hbox);have n2_:=aM_ ((by rw [hg];exact (bS_ (by exact bZ_ HB)) : w.heap.size ≤ gb486));have n3_:=aM_ ((by rw [hg];exact (bS_ (by exact bZ_ HB)) : w.heap.size ≤ gb486));clear HB;have HB:=n0_;have BK486:=n1_;have GW486:=n2_;have GE486:=n3_;clear n0_ n1_ n2_ n3_ hb hbox hg) | ((with_reducible refine gate_dst (N:=3) rfl ?_);refine box_event ?hg (N:=3) ?hd (cs:=#[.bool a1_0,.slice A1_1 l1_1.length c1_1,.slice A1_2 l1_2.length c1_2,.slice A1_3 l1_3.length c1_3]) (t:=29) ?hr ?_;(case hd=>rfl);(case hg=>rfl);(case hr=>first | (go_simp;done) | (go_simp;rfl));intro gb487 hg w15 hbox hb;have n0_:=aM_ (blk_below (g:=gb486) (o:=.cells #[.bool a0_0,.slice A0_1 l0_1.length c0_1,.slice A0_2 l0_2.length c0_2,.slice A0_3 l0_3.length c0_3] 29 (0,0)) (by exact kZ_ BK486) hb);have n1_:=aM_ (bT_ (by exact bZ_ HB) hb);have n2_:=aM_ (hbox);have n3_:=aM_ ((by rw [hg];exact (bS_ (by exact bZ_ HB)) : w.heap.size ≤ gb487));have n4_:=aM_ ((by rw [hg];exact (bS_ (by exact bZ_ HB)) : w.heap.size ≤ gb487));have n5_:=aM_ ((by rw [hg];exact Nat.ne_of_lt (blk_lt (g:=gb486) (o:=.cells #[.bool a0_0,.slice A0_1 l0_1.length c0_1,.slice A0_2 l0_2.length c0_2,.slice A0_3 l0_3.length c0_3] 29 (0,0)) (by exact kZ_ BK486)) : gb486 ≠ gb487));have n6_:=aM_ ((by rw [hg];exact Nat.ne_of_gt (blk_lt (g:=gb486) (o:=.cells #[.bool a0_0,.slice A0_1 l0_1.length c0_1,.slice A0_2 l0_2.length c0_2,.slice A0_3 l0_3.length c0_3] 29 (0,0)) (by exact kZ_ BK486)) : gb487 ≠ gb486));clear BK486 HB;have BK486:=n0_;have HB:=n1_;have BK487:=n2_;have GW487:=n3_;have GE487:=n4_;have NB486_487:=n5_;have NB487_486:=n6_;clear n0_ n1_ n2_ n3_ n4_ n5_ n6_ hb hbox hg;have hnb16:=NB486_487.out;have hnc16:=NB487_486.out;have hcz17_0 : w15.cell? ⟨gb486,0,none⟩ = some (.bool a0_0):=(kC_ BK486.out 0).trans rfl;have hcz17_1 : w15.cell? ⟨gb486,1,none⟩ = some (.slice A0_1 l0_1.length c0_1):=(kC_ BK486.out 1).trans rfl;have hcz17_2 : w15.cell? ⟨gb486,2,none⟩ = some (.slice A0_2 l0_2.length c0_2):=(kC_ BK486.out 2).trans rfl;have hcz17_3 : w15.cell? ⟨gb486,3,none⟩ = some (.slice A0_3 l0_3.length c0_3):=(kC_ BK486.out 3).trans rfl;have hfz17_0:=kF_ BK486.out 0;have hfz17_1:=kF_ BK486.out 1;have hfz17_2:=kF_ BK486.out 2;have hfz17_3:=kF_ BK486.out 3;have hcz18_0 : w15.cell? ⟨gb487,0,none⟩ = some (.bool a1_0):=(kC_ BK487.out 0).trans rfl;have hcz18_1 : w15.cell? ⟨gb487,1,none⟩ = some (.slice A1_1 l1_1.length c1_1):=(kC_ BK487.out 1).trans rfl;have hcz18_2 : w15.cell? ⟨gb487,2,none⟩ = some (.slice A1_2 l1_2.length c1_2):=(kC_ BK487.out 2).trans rfl;have hcz18_3 : w15.cell? ⟨gb487,3,none⟩ = some (.slice A1_3 l1_3.length c1_3):=(kC_ BK487.out 3).trans rfl;have hfz18_0:=kF_ BK487.out 0;have hfz18_1:=kF_ BK487.out 1;have hfz18_2:=kF_ BK487.out 2;have hfz18_3:=kF_ BK487.out 3) | (go_at_call 90;(with_reducible refine (impl_sameTexts.calls k _ _ l0_1 _ _ l1_1 true _ ?side1 ?side2 ?side3 ?side4 A4.out).mono ?_);(case side1=>repeat (first | exact (Kd.C_below HR0_1.out HB.out) | (with_reducible refine cA_ ?_ _) | (with_reducible refine cN_ ?_ _) | (with_reducible refine cD_ ?_)));(case side2=>exact HC0_1.out);(case side3=>repeat (first | exact (Kd.C_below HR1_1.out HB.out) | (with_reducible refine cA_ ?_ _) | (with_reducible refine cN_ ?_ _) | (with_reducible refine cD_ ?_)));(case side4=>exact HC1_1.out);rintro e w' ⟨rfl,⟨nd,rfl⟩⟩) | (go_at_call 90;(with_reducible refine (impl_sameTexts.calls k _ _ l0_2 _ _ l1_2 false _ ?side1 ?side2 ?side3 ?side4 A6.out).mono ?_);(case side1=>repeat (first | exact (Kd.C_below HR0_2.out (by exact bZ_ HB)) | (with_reducible refine cA_ ?_ _) | (with_reducible refine cN_ ?_ _) | (with_reducible refine cD_ ?_)));(case side2=>exact HC0_2.out);(case side3=>repeat (first | exact (Kd.C_below HR1_2.out (by exact bZ_ HB)) | (with_reducible refine cA_ ?_ _) | (with_reducible refine cN_ ?_ _) | (with_reducible refine cD_ ?_)));(case side4=>exact HC1_2.out);rintro e w' ⟨rfl,⟨nd,rfl⟩⟩))
    go_ret
    exact ⟨by first | rfl | (simp [errW_none,errW_some] <;> rfl) | (simp [*, errW_none,errW_some] <;> rfl),by exact bZ_ HB⟩
  ·replace c5:=Bool.eq_false_iff.mpr c5
   subst c5
   have H1 : (some false) = some r:=by rw [if_neg (show ¬ (false = true) by decide)] at H;exact H
   clear H
   have H:=H1
   clear H1
   obtain rfl:=Option.some.inj H
   go_enter Try.func33,Try.ntmps33
   go_wp2_with (first | ((with_reducible refine gate_dst (N:=2) rfl ?_);refine box_event ?hg (N:=2) ?hd (cs:=#[.bool a0_0,.slice A0_1 l0_1.length c0_1,.slice A0_2 l0_2.length c0_2,.slice A0_3 l0_3.length c0_3]) (t:=29) ?hr ?_;(case hd=>rfl);(case hg=>rfl);(case hr=>first | (go_simp;done) | (go_simp;rfl));intro gb486 hg w19 hbox hb;have n0_:=aM_ (bT_ (by exact bZ_ HB) hb);have n1_:=aM_ (hbox);have n2_:=aM_ ((by rw [hg];exact (bS_ (by exact bZ_ HB)) : w.heap.size ≤ gb486));have n3_:=aM_ ((by rw [hg];exact (bS_ (by exact bZ_ HB)) : w.heap.size ≤ gb486));clear HB;have HB:=n0_;have BK486:=n1_;have GW486:=n2_;have GE486:=n3_;clear n0_ n1_ n2_ n3_ hb hbox hg) | ((with_reducible refine gate_dst (N:=3) rfl ?_);refine box_event ?hg (N:=3) ?hd (cs:=#[.bool a1_0,.slice A1_1 l1_1.length c1_1,.slice A1_2 l1_2.length c1_2,.slice A1_3 l1_3.length c1_3]) (t:=29) ?hr ?_;(case hd=>rfl);(case hg=>rfl);(case hr=>first | (go_simp;done) | (go_simp;rfl));intro gb487 hg w20 hbox hb;have n0_:=aM_ (blk_below (g:=gb486) (o:=.cells #[.bool a0_0,.slice A0_1 l0_1.length c0_1,.slice A0_2 l0_2.length c0_2,.slice A0_3 l0_3.length c0_3] 29 (0,0)) (by exact kZ_ BK486) hb);have n1_:=aM_ (bT_ (by exact bZ_ HB) hb);have n2_:=aM_ (hbox);have n3_:=aM_ ((by rw [hg];exact (bS_ (by exact bZ_ HB)) : w.heap.size ≤ gb487));have n4_:=aM_ ((by rw [hg];exact (bS_ (by exact bZ_ HB)) : w.heap.size ≤ gb487));have n5_:=aM_ ((by rw [hg];exact Nat.ne_of_lt (blk_lt (g:=gb486) (o:=.cells #[.bool a0_0,.slice A0_1 l0_1.length c0_1,.slice A0_2 l0_2.length c0_2,.slice A0_3 l0_3.length c0_3] 29 (0,0)) (by exact kZ_ BK486)) : gb486 ≠ gb487));have n6_:=aM_ ((by rw [hg];exact Nat.ne_of_gt (blk_lt (g:=gb486) (o:=.cells #[.bool a0_0,.slice A0_1 l0_1.length c0_1,.slice A0_2 l0_2.length c0_2,.slice A0_3 l0_3.length c0_3] 29 (0,0)) (by exact kZ_ BK486)) : gb487 ≠ gb486));clear BK486 HB;have BK486:=n0_;have HB:=n1_;have BK487:=n2_;have GW487:=n3_;have GE487:=n4_;have NB486_487:=n5_;have NB487_486:=n6_;clear n0_ n1_ n2_ n3_ n4_ n5_ n6_ hb hbox hg;have hnb21:=NB486_487.out;have hnc21:=NB487_486.out;have hcz22_0 : w20.cell? ⟨gb486,0,none⟩ = some (.bool a0_0):=(kC_ BK486.out 0).trans rfl;have hcz22_1 : w20.cell? ⟨gb486,1,none⟩ = some (.slice A0_1 l0_1.length c0_1):=(kC_ BK486.out 1).trans rfl;have hcz22_2 : w20.cell? ⟨gb486,2,none⟩ = some (.slice A0_2 l0_2.length c0_2):=(kC_ BK486.out 2).trans rfl;have hcz22_3 : w20.cell? ⟨gb486,3,none⟩ = some (.slice A0_3 l0_3.length c0_3):=(kC_ BK486.out 3).trans rfl;have hfz22_0:=kF_ BK486.out 0;have hfz22_1:=kF_ BK486.out 1;have hfz22_2:=kF_ BK486.out 2;have hfz22_3:=kF_ BK486.out 3;have hcz23_0 : w20.cell? ⟨gb487,0,none⟩ = some (.bool a1_0):=(kC_ BK487.out 0).trans rfl;have hcz23_1 : w20.cell? ⟨gb487,1,none⟩ = some (.slice A1_1 l1_1.length c1_1):=(kC_ BK487.out 1).trans rfl;have hcz23_2 : w20.cell? ⟨gb487,2,none⟩ = some (.slice A1_2 l1_2.length c1_2):=(kC_ BK487.out 2).trans rfl;have hcz23_3 : w20.cell? ⟨gb487,3,none⟩ = some (.slice A1_3 l1_3.length c1_3):=(kC_ BK487.out 3).trans rfl;have hfz23_0:=kF_ BK487.out 0;have hfz23_1:=kF_ BK487.out 1;have hfz23_2:=kF_ BK487.out 2;have hfz23_3:=kF_ BK487.out 3) | (go_at_call 90;(with_reducible refine (impl_sameTexts.calls k _ _ l0_1 _ _ l1_1 false _ ?side1 ?side2 ?side3 ?side4 A4.out).mono ?_);(case side1=>repeat (first | exact (Kd.C_below HR0_1.out HB.out) | (with_reducible refine cA_ ?_ _) | (with_reducible refine cN_ ?_ _) | (with_reducible refine cD_ ?_)));(case side2=>exact HC0_1.out);(case side3=>repeat (first | exact (Kd.C_below HR1_1.out HB.out) | (with_reducible refine cA_ ?_ _) | (with_reducible refine cN_ ?_ _) | (with_reducible refine cD_ ?_)));(case side4=>exact HC1_1.out);rintro e w' ⟨rfl,⟨nd,rfl⟩⟩))
   go_ret
   exact ⟨by first | rfl | (simp [errW_none,errW_some] <;> rfl) | (simp [*, errW_none,errW_some] <;> rfl),by exact bZ_ HB⟩
 ·rw [if_neg c3] at H
  have c3b0 : (a0_0 == a1_0) = false:=by simpa using c3
  (try (have c3b1 : decide (a0_0 = a1_0) = false:=by simpa using c3))
  (try (have c3b2 : (a0_0 == a1_0) = false:=by simpa using c3))
  (try (have c3b3 : ¬ (a0_0 = a1_0):=by simpa using c3))
  clear c3
  obtain rfl:=Option.some.inj H
  go_enter Try.func33,Try.ntmps33
  go_wp2_with (first | ((with_reducible refine gate_dst (N:=2) rfl ?_);refine box_event ?hg (N:=2) ?hd (cs:=#[.bool a0_0,.slice A0_1 l0_1.length c0_1,.slice A0_2 l0_2.length c0_2,.slice A0_3 l0_3.length c0_3]) (t:=29) ?hr ?_;(case hd=>rfl);(case hg=>rfl);(case hr=>first | (go_simp;done) | (go_simp;rfl));intro gb486 hg w24 hbox hb;have n0_:=aM_ (bT_ (by exact bZ_ HB) hb);have n1_:=aM_ (hbox);have n2_:=aM_ ((by rw [hg];exact (bS_ (by exact bZ_ HB)) : w.heap.size ≤ gb486));have n3_:=aM_ ((by rw [hg];exact (bS_ (by exact bZ_ HB)) : w.heap.size ≤ gb486));clear HB;have HB:=n0_;have BK486:=n1_;have GW486:=n2_;have GE486:=n3_;clear n0_ n1_ n2_ n3_ hb hbox hg) | ((with_reducible refine gate_dst (N:=3) rfl ?_);refine box_event ?hg (N:=3) ?hd (cs:=#[.bool a1_0,.slice A1_1 l1_1.length c1_1,.slice A1_2 l1_2.length c1_2,.slice A1_3 l1_3.length c1_3]) (t:=29) ?hr ?_;(case hd=>rfl);(case hg=>rfl);(case hr=>first | (go_simp;done) | (go_simp;rfl));intro gb487 hg w25 hbox hb;have n0_:=aM_ (blk_below (g:=gb486) (o:=.cells #[.bool a0_0,.slice A0_1 l0_1.length c0_1,.slice A0_2 l0_2.length c0_2,.slice A0_3 l0_3.length c0_3] 29 (0,0)) (by exact kZ_ BK486) hb);have n1_:=aM_ (bT_ (by exact bZ_ HB) hb);have n2_:=aM_ (hbox);have n3_:=aM_ ((by rw [hg];exact (bS_ (by exact bZ_ HB)) : w.heap.size ≤ gb487));have n4_:=aM_ ((by rw [hg];exact (bS_ (by exact bZ_ HB)) : w.heap.size ≤ gb487));have n5_:=aM_ ((by rw [hg];exact Nat.ne_of_lt (blk_lt (g:=gb486) (o:=.cells #[.bool a0_0,.slice A0_1 l0_1.length c0_1,.slice A0_2 l0_2.length c0_2,.slice A0_3 l0_3.length c0_3] 29 (0,0)) (by exact kZ_ BK486)) : gb486 ≠ gb487));have n6_:=aM_ ((by rw [hg];exact Nat.ne_of_gt (blk_lt (g:=gb486) (o:=.cells #[.bool a0_0,.slice A0_1 l0_1.length c0_1,.slice A0_2 l0_2.length c0_2,.slice A0_3 l0_3.length c0_3] 29 (0,0)) (by exact kZ_ BK486)) : gb487 ≠ gb486));clear BK486 HB;have BK486:=n0_;have HB:=n1_;have BK487:=n2_;have GW487:=n3_;have GE487:=n4_;have NB486_487:=n5_;have NB487_486:=n6_;clear n0_ n1_ n2_ n3_ n4_ n5_ n6_ hb hbox hg;have hnb26:=NB486_487.out;have hnc26:=NB487_486.out;have hcz27_0 : w25.cell? ⟨gb486,0,none⟩ = some (.bool a0_0):=(kC_ BK486.out 0).trans rfl;have hcz27_1 : w25.cell? ⟨gb486,1,none⟩ = some (.slice A0_1 l0_1.length c0_1):=(kC_ BK486.out 1).trans rfl;have hcz27_2 : w25.cell? ⟨gb486,2,none⟩ = some (.slice A0_2 l0_2.length c0_2):=(kC_ BK486.out 2).trans rfl;have hcz27_3 : w25.cell? ⟨gb486,3,none⟩ = some (.slice A0_3 l0_3.length c0_3):=(kC_ BK486.out 3).trans rfl;have hfz27_0:=kF_ BK486.out 0;have hfz27_1:=kF_ BK486.out 1;have hfz27_2:=kF_ BK486.out 2;have hfz27_3:=kF_ BK486.out 3;have hcz28_0 : w25.cell? ⟨gb487,0,none⟩ = some (.bool a1_0):=(kC_ BK487.out 0).trans rfl;have hcz28_1 : w25.cell? ⟨gb487,1,none⟩ = some (.slice A1_1 l1_1.length c1_1):=(kC_ BK487.out 1).trans rfl;have hcz28_2 : w25.cell? ⟨gb487,2,none⟩ = some (.slice A1_2 l1_2.length c1_2):=(kC_ BK487.out 2).trans rfl;have hcz28_3 : w25.cell? ⟨gb487,3,none⟩ = some (.slice A1_3 l1_3.length c1_3):=(kC_ BK487.out 3).trans rfl;have hfz28_0:=kF_ BK487.out 0;have hfz28_1:=kF_ BK487.out 1;have hfz28_2:=kF_ BK487.out 2;have hfz28_3:=kF_ BK487.out 3))
  go_ret
  exact ⟨by first | rfl | (simp [errW_none,errW_some] <;> rfl) | (simp [*, errW_none,errW_some] <;> rfl),by exact bZ_ HB⟩
end Go.Proofs.Ytllgmgpfdnofmaa.PFnNodes
