import Derived.Test.YtllgmgpfdnofmaaZNDPFnNodesx0
import Derived.Test.YtllgmgpfdnofmaaZNDPFnNodesx4
import Derived.Test.YtllgmgpfdnofmaaZNDPFnNodesx6
import Derived.Test.YtllgmgpfdnofmaaZNDPFnNodesx11
import Derived.Test.YtllgmgpfdnofmaaZNDPFnNodesx12
import Derived.Test.YtllgmgpfdnofmaaZNDPFnNodesx13
import Derived.Test.YtllgmgpfdnofmaaZNDPFnNodesx14
namespace Go.Proofs.Ytllgmgpfdnofmaa.PFnNodes
open Go.RowKit Go.Proofs.YtllgmgpfdnofmaaW.PrintWords Go.Proofs.YtllgmgpfdnofmaaW.PrintLast Go.Proofs.YtllgmgpfdnofmaaW.PrintMore Go.Proofs.Ytllgmgpfdnofmaa.Xtra
attribute [local go_sem] max2_int min2_int max_two min_two max_three min_three max_four min_four str_leq str_gtr str_geq setCell_drewN cell_set2 cell_set3   -- for this text's walks alone
set_option linter.unusedVariables false
set_option linter.unusedSimpArgs false
def spec_DrawPutNode.f (k : Nat) (l0 : List Int) : Option (Bool × List ByteArray × List ByteArray × List Int):=(spec_l1New.f k l0).bind fun bt410=>((spec_l14Any.f k bt410.1 bt410.2.1 bt410.2.2).bind fun bt414=>(some (bt414.1,bt414.2.1,bt414.2.2.1,bt414.2.2.2.1)))
theorem spec_DrawPutNode.mono : ∀ a0 k,LeO (spec_DrawPutNode.f k a0) (spec_DrawPutNode.f (k + 1) a0):=by
 intro a0 k
 unfold spec_DrawPutNode.f
 repeat' first
   | (with_reducible exact spec_l14Any.mono _ _ _ _)
   | (with_reducible exact spec_l1New.mono _ _)
   | (with_reducible exact LeO.refl _)
   | (with_reducible exact LeO.none _)
   | (with_reducible refine LeO.ite ?_ ?_)
   | (with_reducible refine LeO.bind ?_ (fun _=>?_))
   | exact spec_l14Any.mono _ _ _ _
   | exact spec_l1New.mono _ _
   | exact LeO.none _
   | refine LeO.ite ?_ ?_
   | refine LeO.bind ?_ (fun _=>?_)
set_option maxHeartbeats 8000000 in
set_option maxRecDepth 100000 in
theorem spec_DrawPutNode.calls (k : Nat) (A0 : Option Addr) (c0 : Nat) (l0 : List Int) (r1 : Bool) (r2 : List ByteArray) (r3 : List ByteArray) (r4 : List Int) (w : World) (hr0 : Kd.C (Kd.int .u8) w A0 l0.length l0) (hc0 : l0.length ≤ c0) (h : spec_DrawPutNode.f k l0 = some (r1,r2,r3,r4)) :
  Calls Try.prog 26 #[.slice A0 l0.length c0] w fun e w'=>∃ v1_ v2_ v3_ : Value,e = .returned (.agg #[.bool r1,v1_,v2_,v3_]) ∧ Kd.R Kd.string 9 w' w.heap.size (fun k_=>some k_ ≠ (v2_ : Value).ownBlock) v1_ r2 ∧ Kd.R Kd.string 9 w' w.heap.size (fun k_=>some k_ ≠ (v1_ : Value).ownBlock) v2_ r3 ∧ Kd.R (Kd.int .i64) 3 w' w.heap.size (fun _=>True) v3_ r4 ∧ Below w.heap.size w w':=by
 have hu29:=Try.underlying29
 have HR0:=aM_ hr0
 have HC0:=aM_ hc0
 clear hr0 hc0
 have HB:=aM_ (Below.refl w.heap.size w)
 have H : ((spec_l1New.f k l0).bind fun bt410=>((spec_l14Any.f k bt410.1 bt410.2.1 bt410.2.2).bind fun bt414=>(some (bt414.1,bt414.2.1,bt414.2.2.1,bt414.2.2.2.1)))) = some (r1,r2,r3,r4):=h
 clear h
 replace H:=oB_ H
 obtain ⟨⟨t410,t411,t412⟩,A20,H⟩:=H
 replace H : ((spec_l14Any.f k t410 t411 t412).bind fun bt414=>(some (bt414.1,bt414.2.1,bt414.2.2.1,bt414.2.2.2.1))) = some (r1,r2,r3,r4):=H
 have A2:=aM_ A20
 clear A20
 replace H:=oB_ H
 obtain ⟨⟨t414,t415,t418,t421,t424,t425⟩,A30,H⟩:=H
 replace H : (some (t414,t415,t418,t421)) = some (r1,r2,r3,r4):=H
 have A3:=aM_ A30
 clear A30
 simp only [Option.some.injEq,Prod.mk.injEq] at H
 obtain ⟨rfl,rfl,rfl,rfl⟩:=H
 go_enter Try.func26,Try.ntmps26
 go_wp2_with (first | ((with_reducible refine gate_dst (N:=2) rfl ?_);refine box_event ?hg (N:=2) ?hd (cs:=#[.bool false,.slice none 0 0,.slice none 0 0,.slice none 0 0]) (t:=29) ?hr ?_;(case hd=>rfl);(case hg=>rfl);(case hr=>first | (go_simp;done) | (go_simp;rfl));intro gb409 hg w4 hbox hb;have n0_:=aM_ (bT_ (by exact bZ_ HB) hb);have n1_:=aM_ (hbox);have n2_:=aM_ ((by rw [hg];exact (bS_ (by exact bZ_ HB)) : w.heap.size ≤ gb409));have n3_:=aM_ ((by rw [hg];exact (bS_ (by exact bZ_ HB)) : w.heap.size ≤ gb409));clear HB;have HB:=n0_;have BK409:=n1_;have GW409:=n2_;have GE409:=n3_;clear n0_ n1_ n2_ n3_ hb hbox hg) | ((with_reducible refine gate_callee (f:=83) rfl ?_);refine goesL_ (some 5) rfl rfl Try.func83 (by kernel_rfl) rfl #[.slice A0 l0.length c0] rfl (by (try simp only [mA_,mC_,mN_]);first | done | rfl | (simp only [lD_,lT_];rfl)) ?_;(with_reducible refine (spec_l1New.calls k _ _ l0 t410 t411 t412 w _ ?side1 ?side2 ?side3 A2.out).mono ?_);(case side1=>exact bZ_ HB);(case side2=>exact HR0.out);(case side3=>exact HC0.out);rintro e w5 ⟨g413,rfl,hi,hb,hb2⟩;refine ⟨_,rfl,?_⟩;have n0_:=aM_ (blk_below (g:=gb409) (o:=.cells #[.bool false,.slice none 0 0,.slice none 0 0,.slice none 0 0] 29 (0,0)) (by exact kZ_ BK409) hb2);have n1_:=aM_ (hb);have n2_:=aM_ (hi);have n3_:=aM_ (J155.ne_blk hi (blk_below (g:=gb409) (o:=.cells #[.bool false,.slice none 0 0,.slice none 0 0,.slice none 0 0] 29 (0,0)) (by exact kZ_ BK409) hb2) (by decide));have n4_:=aM_ (Ne.symm (J155.ne_blk hi (blk_below (g:=gb409) (o:=.cells #[.bool false,.slice none 0 0,.slice none 0 0,.slice none 0 0] 29 (0,0)) (by exact kZ_ BK409) hb2) (by decide)));clear BK409 HB;have BK409:=n0_;have HB:=n1_;have HI413:=n2_;have NB413_409:=n3_;have NB409_413:=n4_;clear n0_ n1_ n2_ n3_ n4_ hb hb2 hi) | ((with_reducible refine gate_callee (f:=84) rfl ?_);refine goesL_ (some 7) rfl rfl Try.func84 (by kernel_rfl) rfl #[.pointer (some ⟨g413,0,none⟩)] rfl (by (try simp only [mA_,mC_,mN_]);first | done | rfl | (simp only [lD_,lT_];rfl)) ?_;(with_reducible refine (spec_l14Any.calls k g413 t410 t411 t412 t414 t415 t418 t421 t424 t425 w _ ?side1 ?side2 A3.out).mono ?_);(case side1=>repeat first | exact J155.z HI413 | apply J155.set_1 | apply J155.set_2 | refine J155.y ?_);(case side2=>have e0_:=aM_ (J155.ge HI413.out);exact bZ_ HB);rintro e w6 ⟨v416,v419,v422,rfl,ho0,ho1,ho2,hi,hb,hk⟩;refine ⟨_,rfl,?_⟩;have n0_:=aM_ (KeepBut.blk hk (g':=gb409) (o:=.cells #[.bool false,.slice none 0 0,.slice none 0 0,.slice none 0 0] 29 (0,0)) (by exact kZ_ BK409) NB409_413.out (by simp));have n1_:=aM_ (Kd.R_lower ho0 (bS_ (by have e0_:=aM_ (J155.ge HI413.out);exact bZ_ HB)));have n2_:=aM_ (Kd.R_lower ho1 (bS_ (by have e0_:=aM_ (J155.ge HI413.out);exact bZ_ HB)));have n3_:=aM_ (Kd.R_lower ho2 (bS_ (by have e0_:=aM_ (J155.ge HI413.out);exact bZ_ HB)));have n4_:=aM_ (hb);have n5_:=aM_ (hi);clear BK409 HB HI413;have BK409:=n0_;have HO417:=n1_;have HO420:=n2_;have HO423:=n3_;have HB:=n4_;have HI413:=n5_;clear n0_ n1_ n2_ n3_ n4_ n5_ hb hk hi ho0 ho1 ho2;have hnb7:=NB409_413.out;have hnc7:=NB413_409.out;have hcz8_0 : w6.cell? ⟨gb409,0,none⟩ = some (.bool false):=(kC_ BK409.out 0).trans rfl;have hcz8_1 : w6.cell? ⟨gb409,1,none⟩ = some (.slice none 0 0):=(kC_ BK409.out 1).trans rfl;have hcz8_2 : w6.cell? ⟨gb409,2,none⟩ = some (.slice none 0 0):=(kC_ BK409.out 2).trans rfl;have hcz8_3 : w6.cell? ⟨gb409,3,none⟩ = some (.slice none 0 0):=(kC_ BK409.out 3).trans rfl;have hfz8_0:=kF_ BK409.out 0;have hfz8_1:=kF_ BK409.out 1;have hfz8_2:=kF_ BK409.out 2;have hfz8_3:=kF_ BK409.out 3;obtain ⟨Ao9,co9,eo9⟩:=Kd.R_slice HO417.out;subst eo9;obtain ⟨Ao10,co10,eo10⟩:=Kd.R_slice HO420.out;subst eo10;obtain ⟨Ao11,co11,eo11⟩:=Kd.R_slice HO423.out;subst eo11))
 refine bodyPost_ret (results_cell_row rfl _ _ gb409 29 #[.bool t414,.slice Ao9 t415.length co9,.slice Ao10 t418.length co10,.slice Ao11 t421.length co11] (0,0) _ rfl (by (with_reducible repeat (first | refine kN_ ?_ _ | refine kD_ ?_ | refine kA_ ?_ _));refine kP_ (cs:=#[.bool t414,.slice Ao9 t415.length co9,.slice Ao10 t418.length co10,.slice none 0 0]) ?_ 3 _ rfl;(with_reducible repeat (first | refine kN_ ?_ _ | refine kD_ ?_ | refine kA_ ?_ _));refine kP_ (cs:=#[.bool t414,.slice Ao9 t415.length co9,.slice none 0 0,.slice none 0 0]) ?_ 2 _ rfl;(with_reducible repeat (first | refine kN_ ?_ _ | refine kD_ ?_ | refine kA_ ?_ _));refine kP_ (cs:=#[.bool t414,.slice none 0 0,.slice none 0 0,.slice none 0 0]) ?_ 1 _ rfl;(with_reducible repeat (first | refine kN_ ?_ _ | refine kD_ ?_ | refine kA_ ?_ _));refine kP_ (cs:=#[.bool false,.slice none 0 0,.slice none 0 0,.slice none 0 0]) ?_ 0 _ rfl;exact kZ_ BK409) Try.underlying29 rfl (by kernel_rfl)) rfl ?_
 exact ⟨_,_,_,by first | rfl | (simp [errW_none,errW_some] <;> rfl) | (simp [*, errW_none,errW_some] <;> rfl),by (with_reducible repeat (first | apply rA_ | apply rN_ | apply rD_));exact Kd.R_mono (Kd.R_far (p:=⟨gb409,3,none⟩) (Kd.R_far (p:=⟨gb409,2,none⟩) (Kd.R_far (p:=⟨gb409,1,none⟩) (Kd.R_far (p:=⟨gb409,0,none⟩) (Kd.R_types HO417.out BK409.out (by decide)) (fun _ hk=>hk.2) (.bool t414)) (fun _ hk=>hk.2) (.slice Ao9 t415.length co9)) (fun _ hk=>hk.2) (.slice Ao10 t418.length co10)) (fun _ hk=>hk.2) (.slice Ao11 t421.length co11)) (fun _ hk=>hk.1),by (with_reducible repeat (first | apply rA_ | apply rN_ | apply rD_));exact Kd.R_mono (Kd.R_far (p:=⟨gb409,3,none⟩) (Kd.R_far (p:=⟨gb409,2,none⟩) (Kd.R_far (p:=⟨gb409,1,none⟩) (Kd.R_far (p:=⟨gb409,0,none⟩) (Kd.R_types HO420.out BK409.out (by decide)) (fun _ hk=>hk.2) (.bool t414)) (fun _ hk=>hk.2) (.slice Ao9 t415.length co9)) (fun _ hk=>hk.2) (.slice Ao10 t418.length co10)) (fun _ hk=>hk.2) (.slice Ao11 t421.length co11)) (fun _ hk=>hk.1),by (with_reducible repeat (first | apply rA_ | apply rN_ | apply rD_));exact Kd.R_mono (Kd.R_far (p:=⟨gb409,3,none⟩) (Kd.R_far (p:=⟨gb409,2,none⟩) (Kd.R_far (p:=⟨gb409,1,none⟩) (Kd.R_far (p:=⟨gb409,0,none⟩) (Kd.R_types HO423.out BK409.out (by decide)) (fun _ hk=>hk.2) (.bool t414)) (fun _ hk=>hk.2) (.slice Ao9 t415.length co9)) (fun _ hk=>hk.2) (.slice Ao10 t418.length co10)) (fun _ hk=>hk.2) (.slice Ao11 t421.length co11)) (fun _ hk=>trivial),by have e0_:=aM_ (J155.ge HI413.out);exact bZ_ HB⟩
def spec_PutNode.f (k : Nat) (a0_0 : Bool) (l0_1 : List ByteArray) (l0_2 : List ByteArray) (l0_3 : List Int) : Option (List Int):=(spec_NodeOk.f k a0_0 l0_1 l0_2 l0_3).bind fun t427=>(if t427 = true then ((spec_l14Put.f k a0_0 l0_1 l0_2 l0_3).bind fun t428=>(some t428)) else (some (([] : List Int))))
theorem spec_PutNode.mono : ∀ a0 a1 a2 a3 k,LeO (spec_PutNode.f k a0 a1 a2 a3) (spec_PutNode.f (k + 1) a0 a1 a2 a3):=by
 intro a0 a1 a2 a3 k
 unfold spec_PutNode.f
 repeat' first
   | (with_reducible exact spec_NodeOk.mono _ _ _ _ _)
   | (with_reducible exact spec_l14Put.mono _ _ _ _ _)
   | (with_reducible exact LeO.refl _)
   | (with_reducible exact LeO.none _)
   | (with_reducible refine LeO.ite ?_ ?_)
   | (with_reducible refine LeO.bind ?_ (fun _=>?_))
   | exact spec_NodeOk.mono _ _ _ _ _
   | exact spec_l14Put.mono _ _ _ _ _
   | exact LeO.none _
   | refine LeO.ite ?_ ?_
   | refine LeO.bind ?_ (fun _=>?_)
set_option maxHeartbeats 8000000 in
set_option maxRecDepth 100000 in
theorem spec_PutNode.calls (k : Nat) (a0_0 : Bool) (A0_1 : Option Addr) (c0_1 : Nat) (l0_1 : List ByteArray) (A0_2 : Option Addr) (c0_2 : Nat) (l0_2 : List ByteArray) (A0_3 : Option Addr) (c0_3 : Nat) (l0_3 : List Int) (r : List Int) (w : World) (hr0_1 : Kd.C Kd.string w A0_1 l0_1.length l0_1) (hc0_1 : l0_1.length ≤ c0_1) (hr0_2 : Kd.C Kd.string w A0_2 l0_2.length l0_2) (hc0_2 : l0_2.length ≤ c0_2) (hr0_3 : Kd.C (Kd.int .i64) w A0_3 l0_3.length l0_3) (hc0_3 : l0_3.length ≤ c0_3) (h : spec_PutNode.f k a0_0 l0_1 l0_2 l0_3 = some r) :
  Calls Try.prog 13 #[.agg #[.bool a0_0,.slice A0_1 l0_1.length c0_1,.slice A0_2 l0_2.length c0_2,.slice A0_3 l0_3.length c0_3]] w fun e w'=>∃ v0_ : Value,e = .returned (v0_) ∧ Kd.R (Kd.int .u8) 5 w' w.heap.size (fun _=>True) v0_ r ∧ Below w.heap.size w w':=by
 have hu29:=Try.underlying29
 have HR0_1:=aM_ hr0_1
 have HC0_1:=aM_ hc0_1
 clear hr0_1 hc0_1
 have HR0_2:=aM_ hr0_2
 have HC0_2:=aM_ hc0_2
 clear hr0_2 hc0_2
 have HR0_3:=aM_ hr0_3
 have HC0_3:=aM_ hc0_3
 clear hr0_3 hc0_3
 have HB:=aM_ (Below.refl w.heap.size w)
 have H : ((spec_NodeOk.f k a0_0 l0_1 l0_2 l0_3).bind fun t427=>(if t427 = true then ((spec_l14Put.f k a0_0 l0_1 l0_2 l0_3).bind fun t428=>(some t428)) else (some (([] : List Int))))) = some r:=h
 clear h
 replace H:=oB_ H
 obtain ⟨t427,A20,H⟩:=H
 replace H : (if t427 = true then ((spec_l14Put.f k a0_0 l0_1 l0_2 l0_3).bind fun t428=>(some t428)) else (some (([] : List Int)))) = some r:=H
 have A2:=aM_ A20
 clear A20
 by_cases c3 : t427 = true
 ·subst c3
  have H1 : ((spec_l14Put.f k a0_0 l0_1 l0_2 l0_3).bind fun t428=>(some t428)) = some r:=by rw [if_pos rfl] at H;exact H
  clear H
  have H:=H1
  clear H1
  replace H:=oB_ H
  obtain ⟨t428,A40,H⟩:=H
  replace H : (some t428) = some r:=H
  have A4:=aM_ A40
  clear A40
  obtain rfl:=Option.some.inj H
  go_enter Try.func13,Try.ntmps13
  go_wp2_with (first | ((with_reducible refine gate_dst (N:=1) rfl ?_);refine box_event ?hg (N:=1) ?hd (cs:=#[.bool a0_0,.slice A0_1 l0_1.length c0_1,.slice A0_2 l0_2.length c0_2,.slice A0_3 l0_3.length c0_3]) (t:=29) ?hr ?_;(case hd=>rfl);(case hg=>rfl);(case hr=>first | (go_simp;done) | (go_simp;rfl));intro gb426 hg w5 hbox hb;have n0_:=aM_ (bT_ (by exact bZ_ HB) hb);have n1_:=aM_ (hbox);have n2_:=aM_ ((by rw [hg];exact (bS_ (by exact bZ_ HB)) : w.heap.size ≤ gb426));have n3_:=aM_ ((by rw [hg];exact (bS_ (by exact bZ_ HB)) : w.heap.size ≤ gb426));clear HB;have HB:=n0_;have BK426:=n1_;have GW426:=n2_;have GE426:=n3_;clear n0_ n1_ n2_ n3_ hb hbox hg;have hcz6_0 : w5.cell? ⟨gb426,0,none⟩ = some (.bool a0_0):=(kC_ BK426.out 0).trans rfl;have hcz6_1 : w5.cell? ⟨gb426,1,none⟩ = some (.slice A0_1 l0_1.length c0_1):=(kC_ BK426.out 1).trans rfl;have hcz6_2 : w5.cell? ⟨gb426,2,none⟩ = some (.slice A0_2 l0_2.length c0_2):=(kC_ BK426.out 2).trans rfl;have hcz6_3 : w5.cell? ⟨gb426,3,none⟩ = some (.slice A0_3 l0_3.length c0_3):=(kC_ BK426.out 3).trans rfl;have hfz6_0:=kF_ BK426.out 0;have hfz6_1:=kF_ BK426.out 1;have hfz6_2:=kF_ BK426.out 2;have hfz6_3:=kF_ BK426.out 3) | ((with_reducible refine gate_callee (f:=32) rfl ?_);refine goesL_ (some 4) rfl rfl Try.func32 (by kernel_rfl) rfl #[.agg #[.bool a0_0,.slice A0_1 l0_1.length c0_1,.slice A0_2 l0_2.length c0_2,.slice A0_3 l0_3.length c0_3]] rfl (by (try simp only [mA_,mC_,mN_]);first | done | rfl | (simp only [lD_,lT_];rfl)) ?_;(with_reducible refine (spec_NodeOk.calls k a0_0 _ _ l0_1 _ _ l0_2 _ _ l0_3 true _ ?side1 ?side2 ?side3 ?side4 ?side5 ?side6 A2.out).mono ?_);(case side1=>repeat (first | exact (Kd.C_below HR0_1.out HB.out) | (with_reducible refine cA_ ?_ _) | (with_reducible refine cN_ ?_ _) | (with_reducible refine cD_ ?_)));(case side2=>exact HC0_1.out);(case side3=>repeat (first | exact (Kd.C_below HR0_2.out HB.out) | (with_reducible refine cA_ ?_ _) | (with_reducible refine cN_ ?_ _) | (with_reducible refine cD_ ?_)));(case side4=>exact HC0_2.out);(case side5=>repeat (first | exact (Kd.C_below HR0_3.out HB.out) | (with_reducible refine cA_ ?_ _) | (with_reducible refine cN_ ?_ _) | (with_reducible refine cD_ ?_)));(case side6=>exact HC0_3.out);rintro e w7 ⟨rfl,hb⟩;refine ⟨_,rfl,?_⟩;have n0_:=aM_ (blk_below (g:=gb426) (o:=.cells #[.bool a0_0,.slice A0_1 l0_1.length c0_1,.slice A0_2 l0_2.length c0_2,.slice A0_3 l0_3.length c0_3] 29 (0,0)) (by exact kZ_ BK426) hb);have n1_:=aM_ (bT_ (by exact bZ_ HB) hb);clear BK426 HB;have BK426:=n0_;have HB:=n1_;clear n0_ n1_ hb;have hcz8_0 : w7.cell? ⟨gb426,0,none⟩ = some (.bool a0_0):=(kC_ BK426.out 0).trans rfl;have hcz8_1 : w7.cell? ⟨gb426,1,none⟩ = some (.slice A0_1 l0_1.length c0_1):=(kC_ BK426.out 1).trans rfl;have hcz8_2 : w7.cell? ⟨gb426,2,none⟩ = some (.slice A0_2 l0_2.length c0_2):=(kC_ BK426.out 2).trans rfl;have hcz8_3 : w7.cell? ⟨gb426,3,none⟩ = some (.slice A0_3 l0_3.length c0_3):=(kC_ BK426.out 3).trans rfl;have hfz8_0:=kF_ BK426.out 0;have hfz8_1:=kF_ BK426.out 1;have hfz8_2:=kF_ BK426.out 2;have hfz8_3:=kF_ BK426.out 3) | ((with_reducible refine gate_callee (f:=68) rfl ?_);refine goesL_ (some 8) rfl rfl Try.func68 (by kernel_rfl) rfl #[.agg #[.bool a0_0,.slice A0_1 l0_1.length c0_1,.slice A0_2 l0_2.length c0_2,.slice A0_3 l0_3.length c0_3]] rfl (by (try simp only [mA_,mC_,mN_]);first | done | rfl | (simp only [lD_,lT_];rfl)) ?_;(with_reducible refine (spec_l14Put.calls k a0_0 _ _ l0_1 _ _ l0_2 _ _ l0_3 t428 _ ?side1 ?side2 ?side3 ?side4 ?side5 ?side6 A4.out).mono ?_);(case side1=>repeat (first | exact (Kd.C_below HR0_1.out HB.out) | (with_reducible refine cA_ ?_ _) | (with_reducible refine cN_ ?_ _) | (with_reducible refine cD_ ?_)));(case side2=>exact HC0_1.out);(case side3=>repeat (first | exact (Kd.C_below HR0_2.out HB.out) | (with_reducible refine cA_ ?_ _) | (with_reducible refine cN_ ?_ _) | (with_reducible refine cD_ ?_)));(case side4=>exact HC0_2.out);(case side5=>repeat (first | exact (Kd.C_below HR0_3.out HB.out) | (with_reducible refine cA_ ?_ _) | (with_reducible refine cN_ ?_ _) | (with_reducible refine cD_ ?_)));(case side6=>exact HC0_3.out);rintro e w9 ⟨v429,rfl,ho0,hb⟩;refine ⟨_,rfl,?_⟩;have n0_:=aM_ (Kd.R_lower ho0 (bS_ (by exact bZ_ HB)));have n1_:=aM_ (blk_below (g:=gb426) (o:=.cells #[.bool a0_0,.slice A0_1 l0_1.length c0_1,.slice A0_2 l0_2.length c0_2,.slice A0_3 l0_3.length c0_3] 29 (0,0)) (by exact kZ_ BK426) hb);have n2_:=aM_ (bT_ (by exact bZ_ HB) hb);clear BK426 HB;have HO430:=n0_;have BK426:=n1_;have HB:=n2_;clear n0_ n1_ n2_ hb ho0))
  go_ret
  exact ⟨_,by first | rfl | (simp [errW_none,errW_some] <;> rfl) | (simp [*, errW_none,errW_some] <;> rfl),by exact rZ_ HO430,by exact bZ_ HB⟩
 ·replace c3:=Bool.eq_false_iff.mpr c3
  subst c3
  have H1 : (some (([] : List Int))) = some r:=by rw [if_neg (show ¬ (false = true) by decide)] at H;exact H
  clear H
  have H:=H1
  clear H1
  obtain ⟨y431,hy431⟩ : ∃ y_ : List Int,y_ = (([] : List Int)):=⟨_,rfl⟩
  replace H : (some y431) = some r:=by first | (rw [hy431];with_reducible exact H) | (have H2_:=(Option.bind_some _ _).symm.trans H;rw [hy431];with_reducible exact H2_) | (have H2_:=(Option.bind_some _ _).symm.trans H;with_reducible exact H2_) | with_reducible exact H | (rw [hy431];exact H) | exact H
  have Ny431:=aM_ hy431
  clear hy431
  obtain rfl:=Option.some.inj H
  go_enter Try.func13,Try.ntmps13
  go_wp2_with (first | ((with_reducible refine gate_dst (N:=1) rfl ?_);refine box_event ?hg (N:=1) ?hd (cs:=#[.bool a0_0,.slice A0_1 l0_1.length c0_1,.slice A0_2 l0_2.length c0_2,.slice A0_3 l0_3.length c0_3]) (t:=29) ?hr ?_;(case hd=>rfl);(case hg=>rfl);(case hr=>first | (go_simp;done) | (go_simp;rfl));intro gb426 hg w10 hbox hb;have n0_:=aM_ (bT_ (by exact bZ_ HB) hb);have n1_:=aM_ (hbox);have n2_:=aM_ ((by rw [hg];exact (bS_ (by exact bZ_ HB)) : w.heap.size ≤ gb426));have n3_:=aM_ ((by rw [hg];exact (bS_ (by exact bZ_ HB)) : w.heap.size ≤ gb426));clear HB;have HB:=n0_;have BK426:=n1_;have GW426:=n2_;have GE426:=n3_;clear n0_ n1_ n2_ n3_ hb hbox hg;have hcz11_0 : w10.cell? ⟨gb426,0,none⟩ = some (.bool a0_0):=(kC_ BK426.out 0).trans rfl;have hcz11_1 : w10.cell? ⟨gb426,1,none⟩ = some (.slice A0_1 l0_1.length c0_1):=(kC_ BK426.out 1).trans rfl;have hcz11_2 : w10.cell? ⟨gb426,2,none⟩ = some (.slice A0_2 l0_2.length c0_2):=(kC_ BK426.out 2).trans rfl;have hcz11_3 : w10.cell? ⟨gb426,3,none⟩ = some (.slice A0_3 l0_3.length c0_3):=(kC_ BK426.out 3).trans rfl;have hfz11_0:=kF_ BK426.out 0;have hfz11_1:=kF_ BK426.out 1;have hfz11_2:=kF_ BK426.out 2;have hfz11_3:=kF_ BK426.out 3) | ((with_reducible refine gate_callee (f:=32) rfl ?_);refine goesL_ (some 4) rfl rfl Try.func32 (by kernel_rfl) rfl #[.agg #[.bool a0_0,.slice A0_1 l0_1.length c0_1,.slice A0_2 l0_2.length c0_2,.slice A0_3 l0_3.length c0_3]] rfl (by (try simp only [mA_,mC_,mN_]);first | done | rfl | (simp only [lD_,lT_];rfl)) ?_;(with_reducible refine (spec_NodeOk.calls k a0_0 _ _ l0_1 _ _ l0_2 _ _ l0_3 false _ ?side1 ?side2 ?side3 ?side4 ?side5 ?side6 A2.out).mono ?_);(case side1=>repeat (first | exact (Kd.C_below HR0_1.out HB.out) | (with_reducible refine cA_ ?_ _) | (with_reducible refine cN_ ?_ _) | (with_reducible refine cD_ ?_)));(case side2=>exact HC0_1.out);(case side3=>repeat (first | exact (Kd.C_below HR0_2.out HB.out) | (with_reducible refine cA_ ?_ _) | (with_reducible refine cN_ ?_ _) | (with_reducible refine cD_ ?_)));(case side4=>exact HC0_2.out);(case side5=>repeat (first | exact (Kd.C_below HR0_3.out HB.out) | (with_reducible refine cA_ ?_ _) | (with_reducible refine cN_ ?_ _) | (with_reducible refine cD_ ?_)));(case side6=>exact HC0_3.out);rintro e w12 ⟨rfl,hb⟩;refine ⟨_,rfl,?_⟩;have n0_:=aM_ (blk_below (g:=gb426) (o:=.cells #[.bool a0_0,.slice A0_1 l0_1.length c0_1,.slice A0_2 l0_2.length c0_2,.slice A0_3 l0_3.length c0_3] 29 (0,0)) (by exact kZ_ BK426) hb);have n1_:=aM_ (bT_ (by exact bZ_ HB) hb);clear BK426 HB;have BK426:=n0_;have HB:=n1_;clear n0_ n1_ hb) | ((with_reducible refine gate_dst (N:=6) rfl ?_);refine Kd.R_lit (Kd.int .u8) _ 5 ?hg (N:=6) ?hd (xs:=([] : List Int)) (inner:=[]) (ok:=fun _=>True) (okp:=fun _=>True) ?hr ?hp (fun _ hk=>hk) trivial (Below.refl _ _) (Nat.le_refl _) (by simp) ?_;(case hd=>rfl);(case hg=>rfl);(case hr=>first | (go_simp;done) | (go_simp;rfl));(case hp=>exact (Reps.none _ _));intro v432 w13 ho14 hb hg_ hnew_;clear hg_ hnew_;(first | rw [← Ny431.out] at ho14 | (simp only [Int.reduceToNat] at ho14;rw [← Ny431.out] at ho14));have n0_:=aM_ (Kd.R_lower ho14 (bS_ (by exact bZ_ HB)));have n1_:=aM_ (blk_below (g:=gb426) (o:=.cells #[.bool a0_0,.slice A0_1 l0_1.length c0_1,.slice A0_2 l0_2.length c0_2,.slice A0_3 l0_3.length c0_3] 29 (0,0)) (by exact kZ_ BK426) hb);have n2_:=aM_ (bT_ (by exact bZ_ HB) hb);clear BK426 HB;have HO433:=n0_;have BK426:=n1_;have HB:=n2_;clear n0_ n1_ n2_ hb ho14))
  go_ret
  exact ⟨_,by first | rfl | (simp [errW_none,errW_some] <;> rfl) | (simp [*, errW_none,errW_some] <;> rfl),by exact rZ_ HO433,by exact bZ_ HB⟩
def spec_l1Bend.f (s0_0 : List Int) (s0_1 : Int) (s0_2 : Int) (l1 : List Int) : Option (List Int × Int × Int):=if (l1.length : Int) = 0 then (some (l1,s0_1,s0_2)) else ((spec_l1Below.f s0_0 s0_1 s0_2 5).bind fun bt434=>(if bt434.1 = 0 then ((spec_l1Below.f s0_0 bt434.2.1 bt434.2.2 (l1.length : Int)).bind fun bt437=>((spec_l1Int.f s0_0 bt437.2.1 bt437.2.2 (([0,1,2,127,128,255] : List Int))).bind fun bt443=>(if 0 ≤ bt437.1 then (if bt437.1 < (l1.length : Int) then (some ((l1.set (bt437.1 : Int).toNat ((bt443.1) % 256)),bt443.2.1,bt443.2.2)) else (none)) else (none)))) else (if bt434.1 = 1 then (if l1.length < 140737488355328 then (some ((l1 ++ [3]),bt434.2.1,bt434.2.2)) else (none)) else (if bt434.1 = 2 then ((spec_l1Below.f s0_0 bt434.2.1 bt434.2.2 (l1.length : Int)).bind fun bt450=>(if 0 ≤ bt450.1 then (if bt450.1 ≤ (l1.length : Int) then (some ((l1.take (bt450.1 : Int).toNat),bt450.2.1,bt450.2.2)) else (none)) else (none))) else (some (l1,bt434.2.1,bt434.2.2))))))
set_option maxHeartbeats 8000000 in
set_option maxRecDepth 100000 in
theorem spec_l1Bend.calls (g : Nat) (s0_0 : List Int) (s0_1 : Int) (s0_2 : Int) (P1_ : Nat → Prop) (u9000_ : Value) (l1 : List Int) (r1 : List Int) (r2 : Int) (r3 : Int) (w0 w : World) (hI : J155 w0 w g s0_0 s0_1 s0_2) (hB : Below w0.heap.size w0 w) (ho1 : Kd.R (Kd.int .u8) 5 w w0.heap.size P1_ u9000_ l1) (h : spec_l1Bend.f s0_0 s0_1 s0_2 l1 = some (r1,r2,r3)) :
  Calls Try.prog 85 #[.pointer (some ⟨g,0,none⟩),u9000_] w fun e w'=>∃ v0_ : Value,e = .returned (v0_) ∧ Kd.R (Kd.int .u8) 5 w' w0.heap.size (fun k_=>(P1_ k_ ∨ w.heap.size ≤ k_)) v0_ r1 ∧ J155 w0 w' g s0_0 r2 r3 ∧ Below w0.heap.size w0 w' ∧ Kept w w' (fun k_=>(P1_ k_) ∨ k_ = g):=by
 have HO1:=aM_ (show Kd.R (Kd.int .u8) 5 w w0.heap.size (fun k_=>(P1_ k_ ∨ w.heap.size ≤ k_)) u9000_ l1 from Kd.R_mono ho1 (fun k_ hk=>(.inl hk)))
 have HI0:=aM_ hI
 have HL:=aM_ hB.size
 clear hI
 have HK:=aM_ (Kept.refl w (fun k_=>(P1_ k_) ∨ k_ = g))
 have HW0:=aM_ hB.size
 have HB:=aM_ hB
 clear hB
 have H : (if (l1.length : Int) = 0 then (some (l1,s0_1,s0_2)) else ((spec_l1Below.f s0_0 s0_1 s0_2 5).bind fun bt434=>(if bt434.1 = 0 then ((spec_l1Below.f s0_0 bt434.2.1 bt434.2.2 (l1.length : Int)).bind fun bt437=>((spec_l1Int.f s0_0 bt437.2.1 bt437.2.2 (([0,1,2,127,128,255] : List Int))).bind fun bt443=>(if 0 ≤ bt437.1 then (if bt437.1 < (l1.length : Int) then (some ((l1.set (bt437.1 : Int).toNat ((bt443.1) % 256)),bt443.2.1,bt443.2.2)) else (none)) else (none)))) else (if bt434.1 = 1 then (if l1.length < 140737488355328 then (some ((l1 ++ [3]),bt434.2.1,bt434.2.2)) else (none)) else (if bt434.1 = 2 then ((spec_l1Below.f s0_0 bt434.2.1 bt434.2.2 (l1.length : Int)).bind fun bt450=>(if 0 ≤ bt450.1 then (if bt450.1 ≤ (l1.length : Int) then (some ((l1.take (bt450.1 : Int).toNat),bt450.2.1,bt450.2.2)) else (none)) else (none))) else (some (l1,bt434.2.1,bt434.2.2))))))) = some (r1,r2,r3):=h
 clear h
 by_cases c3 : (l1.length : Int) = 0
 ·rw [if_pos c3] at H
  have c3b0 : ((l1.length : Int) == 0) = true:=beq_iff_eq.mpr c3
  have c3b1 : ((l1.length : Int) != 0) = false:=bne_eq_false_iff_eq.mpr c3
  clear c3
  simp only [Option.some.injEq,Prod.mk.injEq] at H
  obtain ⟨rfl,rfl,rfl⟩:=H
  obtain ⟨Ao4,co4,eo4⟩:=Kd.R_slice HO1.out
  subst eo4
  go_enter Try.func85,Try.ntmps85
  go_wp2
  go_ret
  exact ⟨_,by first | rfl | (simp [errW_none,errW_some] <;> rfl) | (simp [*, errW_none,errW_some] <;> rfl),by exact rZ_ HO1,by repeat first | exact J155.z HI0 | apply J155.set_1 | apply J155.set_2 | refine J155.y ?_,by have e0_:=aM_ (J155.ge HI0.out);exact bZ_ HB,by repeat (first | (with_reducible first | exact HK.out | apply Kept.alloc | apply Kept.drewN | apply Kept.drew | refine Kept.setCell ?_ (.inl (.inr rfl)) _) | exact HK.out)⟩
 ·rw [if_neg c3] at H
  have c3b0 : ((l1.length : Int) == 0) = false:=beq_eq_false_iff_ne.mpr c3
  have c3b1 : ((l1.length : Int) != 0) = true:=bne_iff_ne.mpr c3
  have c3b2 : ¬ (l1 = []):=fun h_=>c3 (by rw [h_];rfl)
  replace H:=oB_ H
  obtain ⟨⟨t434,t435,t436⟩,A50,H⟩:=H
  replace H : (if t434 = 0 then ((spec_l1Below.f s0_0 t435 t436 (l1.length : Int)).bind fun bt437=>((spec_l1Int.f s0_0 bt437.2.1 bt437.2.2 (([0,1,2,127,128,255] : List Int))).bind fun bt443=>(if 0 ≤ bt437.1 then (if bt437.1 < (l1.length : Int) then (some ((l1.set (bt437.1 : Int).toNat ((bt443.1) % 256)),bt443.2.1,bt443.2.2)) else (none)) else (none)))) else (if t434 = 1 then (if l1.length < 140737488355328 then (some ((l1 ++ [3]),t435,t436)) else (none)) else (if t434 = 2 then ((spec_l1Below.f s0_0 t435 t436 (l1.length : Int)).bind fun bt450=>(if 0 ≤ bt450.1 then (if bt450.1 ≤ (l1.length : Int) then (some ((l1.take (bt450.1 : Int).toNat),bt450.2.1,bt450.2.2)) else (none)) else (none))) else (some (l1,t435,t436))))) = some (r1,r2,r3):=H
  have A5:=aM_ A50
  clear A50
  by_cases c6 : t434 = 0
  ·rw [if_pos c6] at H
   have c6b0 : (t434 == 0) = true:=beq_iff_eq.mpr c6
   have c6b1 : (t434 != 0) = false:=bne_eq_false_iff_eq.mpr c6
   clear c6
   replace H:=oB_ H
   obtain ⟨⟨t437,t438,t439⟩,A70,H⟩:=H
   replace H : ((spec_l1Int.f s0_0 t438 t439 (([0,1,2,127,128,255] : List Int))).bind fun bt443=>(if 0 ≤ t437 then (if t437 < (l1.length : Int) then (some ((l1.set (t437 : Int).toNat ((bt443.1) % 256)),bt443.2.1,bt443.2.2)) else (none)) else (none))) = some (r1,r2,r3):=H
   have A7:=aM_ A70
   clear A70
   obtain ⟨y440,hy440⟩ : ∃ y_ : List Int,y_ = (([0,1,2,127,128,255] : List Int)):=⟨_,rfl⟩
   replace H : ((spec_l1Int.f s0_0 t438 t439 y440).bind fun bt443=>(if 0 ≤ t437 then (if t437 < (l1.length : Int) then (some ((l1.set (t437 : Int).toNat ((bt443.1) % 256)),bt443.2.1,bt443.2.2)) else (none)) else (none))) = some (r1,r2,r3):=by first | (rw [hy440];with_reducible exact H) | (have H2_:=(Option.bind_some _ _).symm.trans H;rw [hy440];with_reducible exact H2_) | (have H2_:=(Option.bind_some _ _).symm.trans H;with_reducible exact H2_) | with_reducible exact H | (rw [hy440];exact H) | exact H
   have Ny440:=aM_ hy440
   clear hy440
   replace H:=oB_ H
   obtain ⟨⟨t443,t444,t445⟩,A80,H⟩:=H
   replace H : (if 0 ≤ t437 then (if t437 < (l1.length : Int) then (some ((l1.set (t437 : Int).toNat ((t443) % 256)),t444,t445)) else (none)) else (none)) = some (r1,r2,r3):=H
   have A8:=aM_ A80
   clear A80
   by_cases c9 : 0 ≤ t437
   ·rw [if_pos c9] at H
    have c9b0 : decide (0 ≤ t437) = true:=decide_eq_true c9
    clear c9
    by_cases c10 : t437 < (l1.length : Int)
    ·rw [if_pos c10] at H
     have c10b0 : decide (t437 < (l1.length : Int)) = true:=decide_eq_true c10
     clear c10
     obtain ⟨y446,hy446⟩ : ∃ y_ : List Int,y_ = (l1.set (t437 : Int).toNat ((t443) % 256)):=⟨_,rfl⟩
     replace H : (some (y446,t444,t445)) = some (r1,r2,r3):=by first | (rw [hy446];with_reducible exact H) | (have H2_:=(Option.bind_some _ _).symm.trans H;rw [hy446];with_reducible exact H2_) | (have H2_:=(Option.bind_some _ _).symm.trans H;with_reducible exact H2_) | with_reducible exact H | (rw [hy446];exact H) | exact H
     have Ny446:=aM_ hy446
     clear hy446
     simp only [Option.some.injEq,Prod.mk.injEq] at H
     obtain ⟨rfl,rfl,rfl⟩:=H
     obtain ⟨Ao12,co12,eo12⟩:=Kd.R_slice HO1.out
     subst eo12
     go_enter Try.func85,Try.ntmps85
     go_wp2_with (first | ((with_reducible refine gate_callee (f:=125) rfl ?_);refine goesL_ (some 10) rfl rfl Try.func125 (by kernel_rfl) rfl #[.pointer (some ⟨g,0,none⟩),.int .i64 5] rfl (by (try simp only [mA_,mC_,mN_]);first | done | rfl | (simp only [lD_,lT_];rfl)) ?_;(with_reducible refine (spec_l1Below.calls g s0_0 s0_1 s0_2 5 t434 t435 t436 w0 _ ?side1 ?side2 A5.out).mono ?_);(case side1=>repeat first | exact J155.z HI0 | apply J155.set_1 | apply J155.set_2 | refine J155.y ?_);(case side2=>have e0_:=aM_ (J155.ge HI0.out);exact bZ_ HB);rintro e w13 ⟨rfl,hi,hb,hk⟩;refine ⟨_,rfl,?_⟩;have n0_:=aM_ (Kd.R_mono (Kd.R_keep (J155.apart (show J155 w0 _ g s0_0 s0_1 s0_2 from by repeat first | exact J155.z HI0 | apply J155.set_1 | apply J155.set_2 | refine J155.y ?_) (by exact rZ_ HO1) (by decide)) hk (fun _ h=>h.2)) (fun _ h=>h.1));have n1_:=aM_ (Kept.of_keep (S:=(fun k_=>(P1_ k_) ∨ k_ = g)) (by repeat (first | (with_reducible first | exact HK.out | apply Kept.alloc | apply Kept.drewN | apply Kept.drew | refine Kept.setCell ?_ (.inl (.inr rfl)) _) | exact HK.out)) hk (.inl (.inr rfl)));have n2_:=aM_ (hb);have n3_:=aM_ (hi);clear HO1 HK HB HI0;have HO1:=n0_;have HK:=n1_;have HB:=n2_;have HI0:=n3_;clear n0_ n1_ n2_ n3_ hb hk hi) | ((with_reducible refine gate_callee (f:=125) rfl ?_);refine goesL_ (some 17) rfl rfl Try.func125 (by kernel_rfl) rfl #[.pointer (some ⟨g,0,none⟩),.int .i64 (l1.length : Int)] rfl (by (try simp only [mA_,mC_,mN_]);first | done | rfl | (simp only [lD_,lT_];rfl)) ?_;(with_reducible refine (spec_l1Below.calls g s0_0 t435 t436 (l1.length : Int) t437 t438 t439 w0 _ ?side1 ?side2 A7.out).mono ?_);(case side1=>repeat first | exact J155.z HI0 | apply J155.set_1 | apply J155.set_2 | refine J155.y ?_);(case side2=>have e0_:=aM_ (J155.ge HI0.out);exact bZ_ HB);rintro e w14 ⟨rfl,hi,hb,hk⟩;refine ⟨_,rfl,?_⟩;have n0_:=aM_ (Kd.R_mono (Kd.R_keep (J155.apart (show J155 w0 _ g s0_0 t435 t436 from by repeat first | exact J155.z HI0 | apply J155.set_1 | apply J155.set_2 | refine J155.y ?_) (by exact rZ_ HO1) (by decide)) hk (fun _ h=>h.2)) (fun _ h=>h.1));have n1_:=aM_ (Kept.of_keep (S:=(fun k_=>(P1_ k_) ∨ k_ = g)) (by repeat (first | (with_reducible first | exact HK.out | apply Kept.alloc | apply Kept.drewN | apply Kept.drew | refine Kept.setCell ?_ (.inl (.inr rfl)) _) | exact HK.out)) hk (.inl (.inr rfl)));have n2_:=aM_ (hb);have n3_:=aM_ (hi);clear HO1 HK HB HI0;have HO1:=n0_;have HK:=n1_;have HB:=n2_;have HI0:=n3_;clear n0_ n1_ n2_ n3_ hb hk hi) | ((with_reducible refine gate_dst (N:=19) rfl ?_);refine Kd.R_lit (Kd.int .i64) _ 3 ?hg (N:=19) ?hd (xs:=([0,1,2,127,128,255] : List Int)) (inner:=[.int .i64 0,.int .i64 1,.int .i64 2,.int .i64 127,.int .i64 128,.int .i64 255]) (ok:=fun _=>True) (okp:=fun _=>True) ?hr ?hp (fun _ hk=>hk) trivial (Below.refl _ _) (Nat.le_refl _) (by simp) ?_;(case hd=>rfl);(case hg=>rfl);(case hr=>first | (go_simp;done) | (go_simp;rfl));(case hp=>exact (Reps.one (show Kd.M (Kd.int .i64) _ _ _ 0 [.int .i64 0] from rfl) (Reps.one (show Kd.M (Kd.int .i64) _ _ _ 1 [.int .i64 1] from rfl) (Reps.one (show Kd.M (Kd.int .i64) _ _ _ 2 [.int .i64 2] from rfl) (Reps.one (show Kd.M (Kd.int .i64) _ _ _ 127 [.int .i64 127] from rfl) (Reps.one (show Kd.M (Kd.int .i64) _ _ _ 128 [.int .i64 128] from rfl) (Reps.one (show Kd.M (Kd.int .i64) _ _ _ 255 [.int .i64 255] from rfl) (Reps.none _ _))))))));intro v441 w15 ho16 hb hg_ hnew_;clear hg_ hnew_;(first | rw [← Ny440.out] at ho16 | (simp only [Int.reduceToNat] at ho16;rw [← Ny440.out] at ho16));have n0_:=aM_ (Kd.R_below (by exact rZ_ HO1) hb);have n1_:=aM_ (Kd.R_lower (Kd.R_newM (M:=fun k_=>(P1_ k_ ∨ w.heap.size ≤ k_)) ho16 (by first | exact HK.out.1 | exact (show Kept w _ (fun k_=>(P1_ k_) ∨ k_ = g) from by repeat (first | (with_reducible first | exact HK.out | apply Kept.alloc | apply Kept.drewN | apply Kept.drew | refine Kept.setCell ?_ (.inl (.inr rfl)) _) | exact HK.out)).1) (fun k_ h_=>.inr h_)) (bS_ (by have e0_:=aM_ (J155.ge HI0.out);exact bZ_ HB)));have n2_:=aM_ (J155.below (by repeat first | exact J155.z HI0 | apply J155.set_1 | apply J155.set_2 | refine J155.y ?_) hb);have n3_:=aM_ (Kept.below (S:=(fun k_=>(P1_ k_) ∨ k_ = g)) (by repeat (first | (with_reducible first | exact HK.out | apply Kept.alloc | apply Kept.drewN | apply Kept.drew | refine Kept.setCell ?_ (.inl (.inr rfl)) _) | exact HK.out)) hb);have n4_:=aM_ (bT_ (by have e0_:=aM_ (J155.ge HI0.out);exact bZ_ HB) hb);clear HO1 HI0 HK HB;have HO1:=n0_;have HO442:=n1_;have HI0:=n2_;have HK:=n3_;have HB:=n4_;clear n0_ n1_ n2_ n3_ n4_ hb ho16;obtain ⟨Ao17,co17,eo17⟩:=Kd.R_slice HO442.out;subst eo17) | ((with_reducible refine gate_callee (f:=145) rfl ?_);refine goesL_ (some 20) rfl rfl Try.func145 (by kernel_rfl) rfl #[.pointer (some ⟨g,0,none⟩),.slice Ao17 y440.length co17] rfl (by (try simp only [mA_,mC_,mN_]);first | done | rfl | (simp only [lD_,lT_];rfl)) ?_;(with_reducible refine (spec_l1Int.calls g s0_0 t438 t439 _ _ y440 t443 t444 t445 w0 _ ?side1 ?side2 ?side3 ?side4 ?side5 A8.out).mono ?_);(case side1=>repeat first | exact J155.z HI0 | apply J155.set_1 | apply J155.set_2 | refine J155.y ?_);(case side2=>have e0_:=aM_ (J155.ge HI0.out);exact bZ_ HB);(case side3=>repeat (first | exact (Kd.R_reads' HO442.out).2.2 | (with_reducible refine cA_ ?_ _) | (with_reducible refine cN_ ?_ _) | (with_reducible refine cD_ ?_)));(case side4=>exact (Kd.R_reads' HO442.out).2.1);(case side5=>exact far_slice (J155.own_ne HI0.out HO442.out (by decide)));rintro e w18 ⟨rfl,hi,hb,hk⟩;refine ⟨_,rfl,?_⟩;have n0_:=aM_ (Kd.R_mono (Kd.R_keep (J155.apart (show J155 w0 _ g s0_0 t438 t439 from by repeat first | exact J155.z HI0 | apply J155.set_1 | apply J155.set_2 | refine J155.y ?_) (by exact rZ_ HO1) (by decide)) hk (fun _ h=>h.2)) (fun _ h=>h.1));have n1_:=aM_ (Kd.R_mono (Kd.R_keep (J155.apart (show J155 w0 _ g s0_0 t438 t439 from by repeat first | exact J155.z HI0 | apply J155.set_1 | apply J155.set_2 | refine J155.y ?_) (by exact rZ_ HO442) (by decide)) hk (fun _ h=>h.2)) (fun _ h=>h.1));have n2_:=aM_ (Kept.of_keep (S:=(fun k_=>(P1_ k_) ∨ k_ = g)) (by repeat (first | (with_reducible first | exact HK.out | apply Kept.alloc | apply Kept.drewN | apply Kept.drew | refine Kept.setCell ?_ (.inl (.inr rfl)) _) | exact HK.out)) hk (.inl (.inr rfl)));have n3_:=aM_ (hb);have n4_:=aM_ (hi);clear HO1 HO442 HK HB HI0;have HO1:=n0_;have HO442:=n1_;have HK:=n2_;have HB:=n3_;have HI0:=n4_;clear n0_ n1_ n2_ n3_ n4_ hb hk hi;have p11 : 0 ≤ (t437 : Int):=oT_ (by first | (with_reducible assumption) | assumption);have q11 : (t437 : Int) < ((l1.length : Int) : Int):=oT_ (by first | (with_reducible assumption) | assumption);obtain ⟨go11,co11,eo11,gb11,gl11,cl11,HG11⟩:=Kd.R_form HO1.out (by omega);(first | cases eo11 | (injection eo11 with ea_ en_ ec_;(first | subst ea_ | (injection ea_ with ea_;subst ea_));subst ec_;clear en_));have GB11:=aM_ gb11;have GG11:=aM_ HG11;clear gb11 gl11 HG11;have HMgo11:=aM_ (show (P1_ go11 ∨ w.heap.size ≤ go11) from (HO1.out.1 _ rfl));obtain ⟨hx11_0,hf11_0⟩:=Kd.R_celln 0 HO1.out (t437 : Int) p11 q11;replace p11:=eq_true p11;replace q11:=eq_true q11;obtain ⟨hy19_,hz19_⟩:=Kd.R_celln 0 HO1.out (t437 : Int) (oT_ (by first | (with_reducible assumption) | assumption)) (oT_ (by first | (with_reducible assumption) | assumption));have HP19:=Kd.R_putg HO1.out (t437 : Int) ((t443) % 256)) | ((with_reducible refine gate_store (t:=5) (p:=22) rfl ?_);refine store_event (t:=5) (p:=22) (v:=?vo_w20) (w1:=(w18.setCell ⟨go11,(t437 : Int).toNat,none⟩ (.int .u8 ((t443) % 256)))) ?hg ?ho ?hn ?hr ?_;(case ho=>rfl);(case hg=>rfl);(case hn=>rfl);(case hr=>first | (go_simp;done) | (go_simp;rfl));intro w20 hw;have hg : w18.grownBy w20 (some go11):=(by rw [hw];exact HP19.2);have hp_ : Kd.R (Kd.int .u8) 5 w20 w0.heap.size (fun k_=>(P1_ k_ ∨ w.heap.size ≤ k_)) (.slice (some ⟨go11,0,none⟩) l1.length co12) y446:=(by rw [hw,Ny446.out];exact HP19.1);clear HP19;have n0_:=aM_ (J155.grown (by repeat first | exact J155.z HI0 | apply J155.set_1 | apply J155.set_2 | refine J155.y ?_) hg (J155.own_ne HI0.out HO1.out (by decide)));have n1_:=aM_ (hp_);have n2_:=aM_ (Kd.R_over' (v:=(.slice (some ⟨go11,0,none⟩) l1.length co12)) (by exact rZ_ HO442) (Kd.R_typed HO1.out) (by decide) hg);have n3_:=aM_ ((by rw [hw];exact bE_ (HB.out) GB11.out : Below w0.heap.size w0 w20));have n4_:=aM_ (Kept.of_grown (S:=(fun k_=>(P1_ k_) ∨ k_ = g)) hg (by repeat (first | (with_reducible first | exact HK.out | apply Kept.alloc | apply Kept.drewN | apply Kept.drew | refine Kept.setCell ?_ (.inl (.inr rfl)) _) | exact HK.out)) (fun k_ e_=>Or.imp_left Or.inl ((HO1.out.1 k_ e_))));clear HI0 HO1 HO442 HB HK;have HI0:=n0_;have HO1:=n1_;have HO442:=n2_;have HB:=n3_;have HK:=n4_;clear n0_ n1_ n2_ n3_ n4_ hg hw hp_))
     go_ret
     exact ⟨_,by first | rfl | (simp [errW_none,errW_some] <;> rfl) | (simp [*, errW_none,errW_some] <;> rfl),by exact rZ_ HO1,by repeat first | exact J155.z HI0 | apply J155.set_1 | apply J155.set_2 | refine J155.y ?_,by have e0_:=aM_ (J155.ge HI0.out);exact bZ_ HB,by repeat (first | (with_reducible first | exact HK.out | apply Kept.alloc | apply Kept.drewN | apply Kept.drew | refine Kept.setCell ?_ (.inl (.inr rfl)) _) | exact HK.out)⟩
    ·rw [if_neg c10] at H
     exact absurd H (by simp)
   ·rw [if_neg c9] at H
    exact absurd H (by simp)
  ·rw [if_neg c6] at H
   have c6b0 : (t434 == 0) = false:=beq_eq_false_iff_ne.mpr c6
   have c6b1 : (t434 != 0) = true:=bne_iff_ne.mpr c6
   by_cases c21 : t434 = 1
   ·rw [if_pos c21] at H
    have c21b0 : (t434 == 1) = true:=beq_iff_eq.mpr c21
    have c21b1 : (t434 != 1) = false:=bne_eq_false_iff_eq.mpr c21
    clear c21
    by_cases c22 : l1.length < 140737488355328
    ·rw [if_pos c22] at H
     have LMc22:=aM_ c22
     clear c22
     obtain ⟨y447,hy447⟩ : ∃ y_ : List Int,y_ = (l1 ++ [3]):=⟨_,rfl⟩
     replace H : (some (y447,t435,t436)) = some (r1,r2,r3):=by first | (rw [hy447];with_reducible exact H) | (have H2_:=(Option.bind_some _ _).symm.trans H;rw [hy447];with_reducible exact H2_) | (have H2_:=(Option.bind_some _ _).symm.trans H;with_reducible exact H2_) | with_reducible exact H | (rw [hy447];exact H) | exact H
     have Ny447:=aM_ hy447
     clear hy447
     simp only [Option.some.injEq,Prod.mk.injEq] at H
     obtain ⟨rfl,rfl,rfl⟩:=H
     obtain ⟨Ao23,co23,eo23⟩:=Kd.R_slice HO1.out
     subst eo23
     go_enter Try.func85,Try.ntmps85
     go_wp2_with (first | ((with_reducible refine gate_callee (f:=125) rfl ?_);refine goesL_ (some 10) rfl rfl Try.func125 (by kernel_rfl) rfl #[.pointer (some ⟨g,0,none⟩),.int .i64 5] rfl (by (try simp only [mA_,mC_,mN_]);first | done | rfl | (simp only [lD_,lT_];rfl)) ?_;(with_reducible refine (spec_l1Below.calls g s0_0 s0_1 s0_2 5 t434 t435 t436 w0 _ ?side1 ?side2 A5.out).mono ?_);(case side1=>repeat first | exact J155.z HI0 | apply J155.set_1 | apply J155.set_2 | refine J155.y ?_);(case side2=>have e0_:=aM_ (J155.ge HI0.out);exact bZ_ HB);rintro e w24 ⟨rfl,hi,hb,hk⟩;refine ⟨_,rfl,?_⟩;have n0_:=aM_ (Kd.R_mono (Kd.R_keep (J155.apart (show J155 w0 _ g s0_0 s0_1 s0_2 from by repeat first | exact J155.z HI0 | apply J155.set_1 | apply J155.set_2 | refine J155.y ?_) (by exact rZ_ HO1) (by decide)) hk (fun _ h=>h.2)) (fun _ h=>h.1));have n1_:=aM_ (Kept.of_keep (S:=(fun k_=>(P1_ k_) ∨ k_ = g)) (by repeat (first | (with_reducible first | exact HK.out | apply Kept.alloc | apply Kept.drewN | apply Kept.drew | refine Kept.setCell ?_ (.inl (.inr rfl)) _) | exact HK.out)) hk (.inl (.inr rfl)));have n2_:=aM_ (hb);have n3_:=aM_ (hi);clear HO1 HK HB HI0;have HO1:=n0_;have HK:=n1_;have HB:=n2_;have HI0:=n3_;clear n0_ n1_ n2_ n3_ hb hk hi) | ((with_reducible refine gate_builtin (b:=.append) (xs:=#[.tmp 25,.tmp 26]) rfl ?_);at_builtin;refine Kd.R_append (Kd.int .u8) (w0:=w0) w0.heap.size rfl (.tmp 25) (.tmp 26) 27 5 (.int .u8 0) 1 rfl Try.underlying27 info5 rfl (by decide) (by omega) (.slice Ao23 l1.length co23) l1 3 [.int .u8 3] (fun k_=>(P1_ k_ ∨ w.heap.size ≤ k_)) (fun _=>False) rfl rfl ?aP (fun _ hk=>hk.elim) ?aF ?aO ?aB ?aS ?aL ?_;(case aP=>exact rfl);(case aB=>exact (by have e0_:=aM_ (J155.ge HI0.out);exact bZ_ HB));(case aF=>exact (fun k_ hk=>(.inr (Nat.le_trans (by first | exact HK.out.1 | exact (show Kept w _ (fun k_=>(P1_ k_) ∨ k_ = g) from by repeat (first | (with_reducible first | exact HK.out | apply Kept.alloc | apply Kept.drewN | apply Kept.drew | refine Kept.setCell ?_ (.inl (.inr rfl)) _) | exact HK.out)).1) hk))));(case aO=>exact (by exact rZ_ HO1));(case aS=>exact (bS_ (by have e0_:=aM_ (J155.ge HI0.out);exact bZ_ HB)));(case aL=>have:=LMc22.out;omega);intro v448 w25 ho hb hg hat;rw [← Ny447.out] at ho;have n0_:=aM_ (J155.grown (by repeat first | exact J155.z HI0 | apply J155.set_1 | apply J155.set_2 | refine J155.y ?_) hg (J155.own_ne HI0.out HO1.out (by decide)));have n1_:=aM_ (hb);have n2_:=aM_ (Kept.of_grown (S:=(fun k_=>(P1_ k_) ∨ k_ = g)) hg (by repeat (first | (with_reducible first | exact HK.out | apply Kept.alloc | apply Kept.drewN | apply Kept.drew | refine Kept.setCell ?_ (.inl (.inr rfl)) _) | exact HK.out)) (fun k_ e_=>Or.imp_left Or.inl ((HO1.out.1 k_ e_))));have n3_:=aM_ (ho);clear HI0 HB HK HO1;have HI0:=n0_;have HB:=n1_;have HK:=n2_;have HO449:=n3_;clear n0_ n1_ n2_ n3_ ho hb hg hat))
     go_ret
     exact ⟨_,by first | rfl | (simp [errW_none,errW_some] <;> rfl) | (simp [*, errW_none,errW_some] <;> rfl),by exact rZ_ HO449,by repeat first | exact J155.z HI0 | apply J155.set_1 | apply J155.set_2 | refine J155.y ?_,by have e0_:=aM_ (J155.ge HI0.out);exact bZ_ HB,by repeat (first | (with_reducible first | exact HK.out | apply Kept.alloc | apply Kept.drewN | apply Kept.drew | refine Kept.setCell ?_ (.inl (.inr rfl)) _) | exact HK.out)⟩
    ·rw [if_neg c22] at H
     exact absurd H (by simp)
   ·rw [if_neg c21] at H
    have c21b0 : (t434 == 1) = false:=beq_eq_false_iff_ne.mpr c21
    have c21b1 : (t434 != 1) = true:=bne_iff_ne.mpr c21
    by_cases c26 : t434 = 2
    ·rw [if_pos c26] at H
     have c26b0 : (t434 == 2) = true:=beq_iff_eq.mpr c26
     have c26b1 : (t434 != 2) = false:=bne_eq_false_iff_eq.mpr c26
     clear c26
     replace H:=oB_ H
     obtain ⟨⟨t450,t451,t452⟩,A270,H⟩:=H
     replace H : (if 0 ≤ t450 then (if t450 ≤ (l1.length : Int) then (some ((l1.take (t450 : Int).toNat),t451,t452)) else (none)) else (none)) = some (r1,r2,r3):=H
     have A27:=aM_ A270
     clear A270
     by_cases c28 : 0 ≤ t450
     ·rw [if_pos c28] at H
      have c28b0:=eq_true c28
      have c28b1 : decide (0 ≤ t450) = true:=decide_eq_true c28
      clear c28
      by_cases c29 : t450 ≤ (l1.length : Int)
      ·rw [if_pos c29] at H
       have c29b0:=eq_true c29
       have c29b1 : decide (t450 ≤ (l1.length : Int)) = true:=decide_eq_true c29
       clear c29
       obtain ⟨y453,hy453⟩ : ∃ y_ : List Int,y_ = (l1.take (t450 : Int).toNat):=⟨_,rfl⟩
       replace H : (some (y453,t451,t452)) = some (r1,r2,r3):=by first | (rw [hy453];with_reducible exact H) | (have H2_:=(Option.bind_some _ _).symm.trans H;rw [hy453];with_reducible exact H2_) | (have H2_:=(Option.bind_some _ _).symm.trans H;with_reducible exact H2_) | with_reducible exact H | (rw [hy453];exact H) | exact H
       have Ny453:=aM_ hy453
       clear hy453
       simp only [Option.some.injEq,Prod.mk.injEq] at H
       obtain ⟨rfl,rfl,rfl⟩:=H
       obtain ⟨Ao30,co30,eo30⟩:=Kd.R_slice HO1.out
       subst eo30
       go_enter Try.func85,Try.ntmps85
       go_wp2_with (first | ((with_reducible refine gate_callee (f:=125) rfl ?_);refine goesL_ (some 10) rfl rfl Try.func125 (by kernel_rfl) rfl #[.pointer (some ⟨g,0,none⟩),.int .i64 5] rfl (by (try simp only [mA_,mC_,mN_]);first | done | rfl | (simp only [lD_,lT_];rfl)) ?_;(with_reducible refine (spec_l1Below.calls g s0_0 s0_1 s0_2 5 t434 t435 t436 w0 _ ?side1 ?side2 A5.out).mono ?_);(case side1=>repeat first | exact J155.z HI0 | apply J155.set_1 | apply J155.set_2 | refine J155.y ?_);(case side2=>have e0_:=aM_ (J155.ge HI0.out);exact bZ_ HB);rintro e w31 ⟨rfl,hi,hb,hk⟩;refine ⟨_,rfl,?_⟩;have n0_:=aM_ (Kd.R_mono (Kd.R_keep (J155.apart (show J155 w0 _ g s0_0 s0_1 s0_2 from by repeat first | exact J155.z HI0 | apply J155.set_1 | apply J155.set_2 | refine J155.y ?_) (by exact rZ_ HO1) (by decide)) hk (fun _ h=>h.2)) (fun _ h=>h.1));have n1_:=aM_ (Kept.of_keep (S:=(fun k_=>(P1_ k_) ∨ k_ = g)) (by repeat (first | (with_reducible first | exact HK.out | apply Kept.alloc | apply Kept.drewN | apply Kept.drew | refine Kept.setCell ?_ (.inl (.inr rfl)) _) | exact HK.out)) hk (.inl (.inr rfl)));have n2_:=aM_ (hb);have n3_:=aM_ (hi);clear HO1 HK HB HI0;have HO1:=n0_;have HK:=n1_;have HB:=n2_;have HI0:=n3_;clear n0_ n1_ n2_ n3_ hb hk hi) | ((with_reducible refine gate_callee (f:=125) rfl ?_);refine goesL_ (some 34) rfl rfl Try.func125 (by kernel_rfl) rfl #[.pointer (some ⟨g,0,none⟩),.int .i64 (l1.length : Int)] rfl (by (try simp only [mA_,mC_,mN_]);first | done | rfl | (simp only [lD_,lT_];rfl)) ?_;(with_reducible refine (spec_l1Below.calls g s0_0 t435 t436 (l1.length : Int) t450 t451 t452 w0 _ ?side1 ?side2 A27.out).mono ?_);(case side1=>repeat first | exact J155.z HI0 | apply J155.set_1 | apply J155.set_2 | refine J155.y ?_);(case side2=>have e0_:=aM_ (J155.ge HI0.out);exact bZ_ HB);rintro e w32 ⟨rfl,hi,hb,hk⟩;refine ⟨_,rfl,?_⟩;have n0_:=aM_ (Kd.R_mono (Kd.R_keep (J155.apart (show J155 w0 _ g s0_0 t435 t436 from by repeat first | exact J155.z HI0 | apply J155.set_1 | apply J155.set_2 | refine J155.y ?_) (by exact rZ_ HO1) (by decide)) hk (fun _ h=>h.2)) (fun _ h=>h.1));have n1_:=aM_ (Kept.of_keep (S:=(fun k_=>(P1_ k_) ∨ k_ = g)) (by repeat (first | (with_reducible first | exact HK.out | apply Kept.alloc | apply Kept.drewN | apply Kept.drew | refine Kept.setCell ?_ (.inl (.inr rfl)) _) | exact HK.out)) hk (.inl (.inr rfl)));have n2_:=aM_ (hb);have n3_:=aM_ (hi);clear HO1 HK HB HI0;have HO1:=n0_;have HK:=n1_;have HB:=n2_;have HI0:=n3_;clear n0_ n1_ n2_ n3_ hb hk hi;have q33 : (t450 : Int) ≤ ((l1.length : Int) : Int):=oT_ (by first | (with_reducible assumption) | assumption);obtain ⟨i033,hi033,_,hsz33,_⟩:=info_parts info5;have hcut33:=cut_to (P:=Try.prog) 27 5 .i64 Try.underlying27 hi033 Ao30 l1.length co30 t450 (oT_ (by first | (with_reducible assumption) | assumption)) q33 (Kd.R_reads' HO1.out).2.1;have hr33:=Kd.R_take (m:=(t450 : Int).toNat) HO1.out (by omega);have hy33 : y453.length = (t450 : Int).toNat:=(by rw [Ny453.out,lT_];omega);rw [← Ny453.out] at hr33;rw [← hy33] at hr33 hcut33;clear hy33 hi033 hsz33 HO1;have HO455:=aM_ hr33;clear hr33;replace q33:=eq_true q33))
       go_ret
       exact ⟨_,by first | rfl | (simp [errW_none,errW_some] <;> rfl) | (simp [*, errW_none,errW_some] <;> rfl),by exact rZ_ HO455,by repeat first | exact J155.z HI0 | apply J155.set_1 | apply J155.set_2 | refine J155.y ?_,by have e0_:=aM_ (J155.ge HI0.out);exact bZ_ HB,by repeat (first | (with_reducible first | exact HK.out | apply Kept.alloc | apply Kept.drewN | apply Kept.drew | refine Kept.setCell ?_ (.inl (.inr rfl)) _) | exact HK.out)⟩
      ·rw [if_neg c29] at H
       exact absurd H (by simp)
     ·rw [if_neg c28] at H
      exact absurd H (by simp)
    ·rw [if_neg c26] at H
     have c26b0 : (t434 == 2) = false:=beq_eq_false_iff_ne.mpr c26
     have c26b1 : (t434 != 2) = true:=bne_iff_ne.mpr c26
     simp only [Option.some.injEq,Prod.mk.injEq] at H
     obtain ⟨rfl,rfl,rfl⟩:=H
     obtain ⟨Ao34,co34,eo34⟩:=Kd.R_slice HO1.out
     subst eo34
     go_enter Try.func85,Try.ntmps85
     go_wp2_with (first | ((with_reducible refine gate_callee (f:=125) rfl ?_);refine goesL_ (some 10) rfl rfl Try.func125 (by kernel_rfl) rfl #[.pointer (some ⟨g,0,none⟩),.int .i64 5] rfl (by (try simp only [mA_,mC_,mN_]);first | done | rfl | (simp only [lD_,lT_];rfl)) ?_;(with_reducible refine (spec_l1Below.calls g s0_0 s0_1 s0_2 5 t434 t435 t436 w0 _ ?side1 ?side2 A5.out).mono ?_);(case side1=>repeat first | exact J155.z HI0 | apply J155.set_1 | apply J155.set_2 | refine J155.y ?_);(case side2=>have e0_:=aM_ (J155.ge HI0.out);exact bZ_ HB);rintro e w35 ⟨rfl,hi,hb,hk⟩;refine ⟨_,rfl,?_⟩;have n0_:=aM_ (Kd.R_mono (Kd.R_keep (J155.apart (show J155 w0 _ g s0_0 s0_1 s0_2 from by repeat first | exact J155.z HI0 | apply J155.set_1 | apply J155.set_2 | refine J155.y ?_) (by exact rZ_ HO1) (by decide)) hk (fun _ h=>h.2)) (fun _ h=>h.1));have n1_:=aM_ (Kept.of_keep (S:=(fun k_=>(P1_ k_) ∨ k_ = g)) (by repeat (first | (with_reducible first | exact HK.out | apply Kept.alloc | apply Kept.drewN | apply Kept.drew | refine Kept.setCell ?_ (.inl (.inr rfl)) _) | exact HK.out)) hk (.inl (.inr rfl)));have n2_:=aM_ (hb);have n3_:=aM_ (hi);clear HO1 HK HB HI0;have HO1:=n0_;have HK:=n1_;have HB:=n2_;have HI0:=n3_;clear n0_ n1_ n2_ n3_ hb hk hi))
     go_ret
     exact ⟨_,by first | rfl | (simp [errW_none,errW_some] <;> rfl) | (simp [*, errW_none,errW_some] <;> rfl),by exact rZ_ HO1,by repeat first | exact J155.z HI0 | apply J155.set_1 | apply J155.set_2 | refine J155.y ?_,by have e0_:=aM_ (J155.ge HI0.out);exact bZ_ HB,by repeat (first | (with_reducible first | exact HK.out | apply Kept.alloc | apply Kept.drewN | apply Kept.drew | refine Kept.setCell ?_ (.inl (.inr rfl)) _) | exact HK.out)⟩
def spec_DrawGetNode.f (k : Nat) (l0 : List Int) : Option (List Int):=(spec_l1New.f k l0).bind fun bt456=>((spec_l14Draw.f k bt456.1 bt456.2.1 bt456.2.2).bind fun bt460=>((spec_PutNode.f k bt460.1 bt460.2.1 bt460.2.2.1 bt460.2.2.2.1).bind fun t472=>((spec_l1Bend.f bt456.1 bt460.2.2.2.2.1 bt460.2.2.2.2.2 t472).bind fun bt475=>(some bt475.1))))
theorem spec_DrawGetNode.mono : ∀ a0 k,LeO (spec_DrawGetNode.f k a0) (spec_DrawGetNode.f (k + 1) a0):=by
 intro a0 k
 unfold spec_DrawGetNode.f
 repeat' first
   | (with_reducible exact spec_PutNode.mono _ _ _ _ _)
   | (with_reducible exact spec_l14Draw.mono _ _ _ _)
   | (with_reducible exact spec_l1New.mono _ _)
   | (with_reducible exact LeO.refl _)
   | (with_reducible exact LeO.none _)
   | (with_reducible refine LeO.ite ?_ ?_)
   | (with_reducible refine LeO.bind ?_ (fun _=>?_))
   | exact spec_PutNode.mono _ _ _ _ _
   | exact spec_l14Draw.mono _ _ _ _
   | exact spec_l1New.mono _ _
   | exact LeO.none _
   | refine LeO.ite ?_ ?_
   | refine LeO.bind ?_ (fun _=>?_)
set_option maxHeartbeats 8000000 in
set_option maxRecDepth 100000 in
theorem spec_DrawGetNode.calls (k : Nat) (A0 : Option Addr) (c0 : Nat) (l0 : List Int) (r : List Int) (w : World) (hr0 : Kd.C (Kd.int .u8) w A0 l0.length l0) (hc0 : l0.length ≤ c0) (h : spec_DrawGetNode.f k l0 = some r) :
  Calls Try.prog 27 #[.slice A0 l0.length c0] w fun e w'=>∃ v0_ : Value,e = .returned (v0_) ∧ Kd.R (Kd.int .u8) 5 w' w.heap.size (fun _=>True) v0_ r ∧ Below w.heap.size w w':=by
 have HR0:=aM_ hr0
 have HC0:=aM_ hc0
 clear hr0 hc0
 have HB:=aM_ (Below.refl w.heap.size w)
 have H : ((spec_l1New.f k l0).bind fun bt456=>((spec_l14Draw.f k bt456.1 bt456.2.1 bt456.2.2).bind fun bt460=>((spec_PutNode.f k bt460.1 bt460.2.1 bt460.2.2.1 bt460.2.2.2.1).bind fun t472=>((spec_l1Bend.f bt456.1 bt460.2.2.2.2.1 bt460.2.2.2.2.2 t472).bind fun bt475=>(some bt475.1))))) = some r:=h
 clear h
 replace H:=oB_ H
 obtain ⟨⟨t456,t457,t458⟩,A20,H⟩:=H
 replace H : ((spec_l14Draw.f k t456 t457 t458).bind fun bt460=>((spec_PutNode.f k bt460.1 bt460.2.1 bt460.2.2.1 bt460.2.2.2.1).bind fun t472=>((spec_l1Bend.f t456 bt460.2.2.2.2.1 bt460.2.2.2.2.2 t472).bind fun bt475=>(some bt475.1)))) = some r:=H
 have A2:=aM_ A20
 clear A20
 replace H:=oB_ H
 obtain ⟨⟨t460,t461,t464,t467,t470,t471⟩,A30,H⟩:=H
 replace H : ((spec_PutNode.f k t460 t461 t464 t467).bind fun t472=>((spec_l1Bend.f t456 t470 t471 t472).bind fun bt475=>(some bt475.1))) = some r:=H
 have A3:=aM_ A30
 clear A30
 replace H:=oB_ H
 obtain ⟨t472,A40,H⟩:=H
 replace H : ((spec_l1Bend.f t456 t470 t471 t472).bind fun bt475=>(some bt475.1)) = some r:=H
 have A4:=aM_ A40
 clear A40
 replace H:=oB_ H
 obtain ⟨⟨t475,t478,t479⟩,A50,H⟩:=H
 replace H : (some t475) = some r:=H
 have A5:=aM_ A50
 clear A50
 obtain rfl:=Option.some.inj H
 go_enter Try.func27,Try.ntmps27
 go_wp2_with (first | ((with_reducible refine gate_callee (f:=83) rfl ?_);refine goesL_ (some 5) rfl rfl Try.func83 (by kernel_rfl) rfl #[.slice A0 l0.length c0] rfl (by (try simp only [mA_,mC_,mN_]);first | done | rfl | (simp only [lD_,lT_];rfl)) ?_;(with_reducible refine (spec_l1New.calls k _ _ l0 t456 t457 t458 w _ ?side1 ?side2 ?side3 A2.out).mono ?_);(case side1=>exact bZ_ HB);(case side2=>exact HR0.out);(case side3=>exact HC0.out);rintro e w6 ⟨g459,rfl,hi,hb,hb2⟩;refine ⟨_,rfl,?_⟩;have n0_:=aM_ (hb);have n1_:=aM_ (hi);clear HB;have HB:=n0_;have HI459:=n1_;clear n0_ n1_ hb hb2 hi) | ((with_reducible refine gate_callee (f:=86) rfl ?_);refine goesL_ (some 8) rfl rfl Try.func86 (by kernel_rfl) rfl #[.pointer (some ⟨g459,0,none⟩)] rfl (by (try simp only [mA_,mC_,mN_]);first | done | rfl | (simp only [lD_,lT_];rfl)) ?_;(with_reducible refine (spec_l14Draw.calls k g459 t456 t457 t458 t460 t461 t464 t467 t470 t471 w _ ?side1 ?side2 A3.out).mono ?_);(case side1=>repeat first | exact J155.z HI459 | apply J155.set_1 | apply J155.set_2 | refine J155.y ?_);(case side2=>have e0_:=aM_ (J155.ge HI459.out);exact bZ_ HB);rintro e w7 ⟨v462,v465,v468,rfl,ho0,ho1,ho2,hi,hb,hk⟩;refine ⟨_,rfl,?_⟩;have n0_:=aM_ (Kd.R_lower ho0 (bS_ (by have e0_:=aM_ (J155.ge HI459.out);exact bZ_ HB)));have n1_:=aM_ (Kd.R_lower ho1 (bS_ (by have e0_:=aM_ (J155.ge HI459.out);exact bZ_ HB)));have n2_:=aM_ (Kd.R_lower ho2 (bS_ (by have e0_:=aM_ (J155.ge HI459.out);exact bZ_ HB)));have n3_:=aM_ (hb);have n4_:=aM_ (hi);clear HB HI459;have HO463:=n0_;have HO466:=n1_;have HO469:=n2_;have HB:=n3_;have HI459:=n4_;clear n0_ n1_ n2_ n3_ n4_ hb hk hi ho0 ho1 ho2;obtain ⟨Ao8,co8,eo8⟩:=Kd.R_slice HO463.out;subst eo8;obtain ⟨Ao9,co9,eo9⟩:=Kd.R_slice HO466.out;subst eo9;obtain ⟨Ao10,co10,eo10⟩:=Kd.R_slice HO469.out;subst eo10) | ((with_reducible refine gate_callee (f:=13) rfl ?_);refine goesL_ (some 9) rfl rfl Try.func13 (by kernel_rfl) rfl #[.agg #[.bool t460,.slice Ao8 t461.length co8,.slice Ao9 t464.length co9,.slice Ao10 t467.length co10]] rfl (by (try simp only [mA_,mC_,mN_]);first | done | rfl | (simp only [lD_,lT_];rfl)) ?_;(with_reducible refine (spec_PutNode.calls k t460 _ _ t461 _ _ t464 _ _ t467 t472 _ ?side1 ?side2 ?side3 ?side4 ?side5 ?side6 A4.out).mono ?_);(case side1=>repeat (first | exact (Kd.R_reads' HO463.out).2.2 | (with_reducible refine cA_ ?_ _) | (with_reducible refine cN_ ?_ _) | (with_reducible refine cD_ ?_)));(case side2=>exact (Kd.R_reads' HO463.out).2.1);(case side3=>repeat (first | exact (Kd.R_reads' HO466.out).2.2 | (with_reducible refine cA_ ?_ _) | (with_reducible refine cN_ ?_ _) | (with_reducible refine cD_ ?_)));(case side4=>exact (Kd.R_reads' HO466.out).2.1);(case side5=>repeat (first | exact (Kd.R_reads' HO469.out).2.2 | (with_reducible refine cA_ ?_ _) | (with_reducible refine cN_ ?_ _) | (with_reducible refine cD_ ?_)));(case side6=>exact (Kd.R_reads' HO469.out).2.1);rintro e w11 ⟨v473,rfl,ho0,hb⟩;refine ⟨_,rfl,?_⟩;have n0_:=aM_ (Kd.R_below (by exact rZ_ HO463) hb);have n1_:=aM_ (Kd.R_below (by exact rZ_ HO466) hb);have n2_:=aM_ (Kd.R_below (by exact rZ_ HO469) hb);have n3_:=aM_ (Kd.R_lower ho0 (bS_ (by have e0_:=aM_ (J155.ge HI459.out);exact bZ_ HB)));have n4_:=aM_ (J155.below (by repeat first | exact J155.z HI459 | apply J155.set_1 | apply J155.set_2 | refine J155.y ?_) hb);have n5_:=aM_ (bT_ (by have e0_:=aM_ (J155.ge HI459.out);exact bZ_ HB) hb);clear HO463 HO466 HO469 HI459 HB;have HO463:=n0_;have HO466:=n1_;have HO469:=n2_;have HO474:=n3_;have HI459:=n4_;have HB:=n5_;clear n0_ n1_ n2_ n3_ n4_ n5_ hb ho0;obtain ⟨Ao12,co12,eo12⟩:=Kd.R_slice HO474.out;subst eo12) | ((with_reducible refine gate_callee (f:=85) rfl ?_);refine goesL_ (some 10) rfl rfl Try.func85 (by kernel_rfl) rfl #[.pointer (some ⟨g459,0,none⟩),.slice Ao12 t472.length co12] rfl (by (try simp only [mA_,mC_,mN_]);first | done | rfl | (simp only [lD_,lT_];rfl)) ?_;(with_reducible refine (spec_l1Bend.calls g459 t456 t470 t471 (fun k_=>some k_ = (.slice Ao12 t472.length co12 : Value).ownBlock) (.slice Ao12 t472.length co12) t472 t475 t478 t479 w _ ?side1 ?side2 ?side3 A5.out).mono ?_);(case side1=>repeat first | exact J155.z HI459 | apply J155.set_1 | apply J155.set_2 | refine J155.y ?_);(case side2=>have e0_:=aM_ (J155.ge HI459.out);exact bZ_ HB);(case side3=>exact Kd.R_tight rfl HO474.out);rintro e w13 ⟨v476,rfl,ho0,hi,hb,hkp⟩;refine ⟨_,rfl,?_⟩;have n0_:=aM_ (hi);have n1_:=aM_ (Kd.R_mono (ok':=fun k_=>some k_ ≠ (.slice Ao9 t464.length co9 : Value).ownBlock) (Kd.R_keptB ((J155.apart HI459.out (Kd.R_apart' HO463.out (Kd.R_typed HO474.out) (by decide)) (by decide))) hkp (fun k_ hk_ hs_=>Or.elim hs_ (fun hs_=>(hk_.1.2) hs_) (fun e_=>(hk_.2) e_))) (fun k_ hk_=>hk_.1.1.1));have n2_:=aM_ (Kd.R_mono (ok':=fun k_=>some k_ ≠ (.slice Ao8 t461.length co8 : Value).ownBlock) (Kd.R_keptB ((J155.apart HI459.out (Kd.R_apart' HO466.out (Kd.R_typed HO474.out) (by decide)) (by decide))) hkp (fun k_ hk_ hs_=>Or.elim hs_ (fun hs_=>(hk_.1.2) hs_) (fun e_=>(hk_.2) e_))) (fun k_ hk_=>hk_.1.1.1));have n3_:=aM_ (Kd.R_mono (ok':=fun k_=>True) (Kd.R_keptB ((J155.apart HI459.out (Kd.R_apart' HO469.out (Kd.R_typed HO474.out) (by decide)) (by decide))) hkp (fun k_ hk_ hs_=>Or.elim hs_ (fun hs_=>(hk_.1.2) hs_) (fun e_=>(hk_.2) e_))) (fun k_ hk_=>trivial));have n4_:=aM_ (Kd.R_mono (ok':=fun k_=>True) ho0 (fun k_ hk_=>trivial));have n5_:=aM_ (hb);clear HI459 HO463 HO466 HO469 HB HO474;have HI459:=n0_;have HO463:=n1_;have HO466:=n2_;have HO469:=n3_;have HO477:=n4_;have HB:=n5_;clear n0_ n1_ n2_ n3_ n4_ n5_ hb hkp ho0))
 go_ret
 exact ⟨_,by first | rfl | (simp [errW_none,errW_some] <;> rfl) | (simp [*, errW_none,errW_some] <;> rfl),by exact rZ_ HO477,by have e0_:=aM_ (J155.ge HI459.out);exact bZ_ HB⟩
def laws_sameBytes.l0 : Nat → List Int → List Int → Int → Option (Bool)
 | 0,_,_,_=>none
 | k + 1,x0,x1,x5=>if x5 < (x0.length : Int) then (if 0 ≤ x5 then (if x5 < (x1.length : Int) then (if (rd x0 x5) = (rd x1 x5) then (laws_sameBytes.l0 k x0 x1 (wrap64 (x5 + 1))) else (some false)) else (none)) else (none)) else (some true)
def laws_sameBytes.f (k : Nat) (l0 : List Int) (l1 : List Int) : Option (Bool):=if (l0.length : Int) = (l1.length : Int) then (laws_sameBytes.l0 k l0 l1 0) else (some false)
theorem laws_sameBytes.mono_l : ∀ k,(∀ y0 y1 y2,LeO (laws_sameBytes.l0 k y0 y1 y2) (laws_sameBytes.l0 (k + 1) y0 y1 y2))
 | 0=>fun _ _ _ r h=>by simp [laws_sameBytes.l0] at h
 | k + 1=>by
  have ih0:=laws_sameBytes.mono_l k
  ·intro y0 y1 y2
   unfold laws_sameBytes.l0
   repeat' first
   | (with_reducible exact ih0 _ _ _)
   | (with_reducible exact LeO.refl _)
   | (with_reducible exact LeO.none _)
   | (with_reducible refine LeO.ite ?_ ?_)
   | (with_reducible refine LeO.bind ?_ (fun _=>?_))
   | exact ih0 _ _ _
   | exact LeO.none _
   | refine LeO.ite ?_ ?_
   | refine LeO.bind ?_ (fun _=>?_)
theorem laws_sameBytes.mono : ∀ a0 a1 k,LeO (laws_sameBytes.f k a0 a1) (laws_sameBytes.f (k + 1) a0 a1):=by
 intro a0 a1 k
 have ih0:=laws_sameBytes.mono_l k
 unfold laws_sameBytes.f
 repeat' first
   | (with_reducible exact ih0 _ _ _)
   | (with_reducible exact LeO.refl _)
   | (with_reducible exact LeO.none _)
   | (with_reducible refine LeO.ite ?_ ?_)
   | (with_reducible refine LeO.bind ?_ (fun _=>?_))
   | exact ih0 _ _ _
   | exact LeO.none _
   | refine LeO.ite ?_ ?_
   | refine LeO.bind ?_ (fun _=>?_)
set_option maxHeartbeats 8000000 in
set_option maxRecDepth 100000 in
theorem laws_sameBytes.calls (k : Nat) (A0 : Option Addr) (c0 : Nat) (l0 : List Int) (A1 : Option Addr) (c1 : Nat) (l1 : List Int) (r : Bool) (w : World) (hr0 : Kd.C (Kd.int .u8) w A0 l0.length l0) (hc0 : l0.length ≤ c0) (hr1 : Kd.C (Kd.int .u8) w A1 l1.length l1) (hc1 : l1.length ≤ c1) (h : laws_sameBytes.f k l0 l1 = some r) :
  Calls Try.prog 29 #[.slice A0 l0.length c0,.slice A1 l1.length c1] w fun e w'=>e = .returned (.bool r) ∧ Drawn0 w w':=by
 have HR0:=aM_ hr0
 have HC0:=aM_ hc0
 clear hr0 hc0
 have HR1:=aM_ hr1
 have HC1:=aM_ hc1
 clear hr1 hc1
 have H : (if (l0.length : Int) = (l1.length : Int) then (laws_sameBytes.l0 k l0 l1 0) else (some false)) = some r:=h
 clear h
 by_cases c3 : (l0.length : Int) = (l1.length : Int)
 ·rw [if_pos c3] at H
  have c3b0 : ((l0.length : Int) == (l1.length : Int)) = true:=beq_iff_eq.mpr c3
  have c3b1 : ((l0.length : Int) != (l1.length : Int)) = false:=bne_eq_false_iff_eq.mpr c3
  have c3b2 : (l0.length == l1.length) = true:=by first | simpa using c3 | (simp at c3 ⊢;omega)
  clear c3
  have H':=aM_ H
  clear H
  go_enter Try.func29,Try.ntmps29
  go_wp2
  repeat (go_quiet (fail);try go_wp2)
  (try simp only [Act.put,sI_,sS_,sZ_])
  go_loopg [5] k (fun kq v5 w'=>∃ (x5_1 : Int),v5 = .int .i64 x5_1 ∧ Aside0 (laws_sameBytes.l0 kq l0 l1 x5_1 = some r) ∧ Aside0 (kq ≤ k) ∧ Drawn0 w w')
  case atStart=>exact ⟨(0),(by first | rfl | (simp;done) | (simp [*];done)),H', ⟨Nat.le_refl _⟩,by repeat (first | exact Drawn0.refl _ | apply Drawn0.step)⟩
  case round =>
   clear H'
   clear c3b0 c3b1 c3b2
   obtain ⟨x5_1,rfl,HA,HK1,⟨m1,rfl⟩⟩:=hrel
   cases gk with
   | zero=>exact absurd HA.out (by simp [laws_sameBytes.l0])
   | succ k1 =>
    have H:=HA.out
    clear HA
    simp only [laws_sameBytes.l0] at H
    by_cases c4 : x5_1 < (l0.length : Int)
    ·rw [if_pos c4] at H
     have c4b0 : decide (x5_1 < (l0.length : Int)) = true:=decide_eq_true c4
     clear c4
     by_cases c5 : 0 ≤ x5_1
     ·rw [if_pos c5] at H
      have c5b0 : decide (0 ≤ x5_1) = true:=decide_eq_true c5
      clear c5
      by_cases c6 : x5_1 < (l1.length : Int)
      ·rw [if_pos c6] at H
       have c6b0 : decide (x5_1 < (l1.length : Int)) = true:=decide_eq_true c6
       clear c6
       by_cases c7 : (rd l0 x5_1) = (rd l1 x5_1)
       ·rw [if_pos c7] at H
        have c7b0 : ((rd l0 x5_1) == (rd l1 x5_1)) = true:=beq_iff_eq.mpr c7
        have c7b1 : ((rd l0 x5_1) != (rd l1 x5_1)) = false:=bne_eq_false_iff_eq.mpr c7
        clear c7
        have H':=aM_ H
        clear H
        have p480 : 0 ≤ (x5_1 : Int):=oT_ (by first | (with_reducible assumption) | assumption)
        have q480 : x5_1 < (l0.length : Int):=oT_ (by first | (with_reducible assumption) | assumption)
        obtain ⟨ad480,e480,hx480_0⟩:=Kd.at_int HR0.out x5_1 p480 q480
        cases e480
        replace p480:=eq_true p480
        replace q480:=eq_true q480
        have p481 : 0 ≤ (x5_1 : Int):=oT_ (by first | (with_reducible assumption) | assumption)
        have q481 : x5_1 < (l1.length : Int):=oT_ (by first | (with_reducible assumption) | assumption)
        obtain ⟨ad481,e481,hx481_0⟩:=Kd.at_int HR1.out x5_1 p481 q481
        cases e481
        replace p481:=eq_true p481
        replace q481:=eq_true q481
        go_wp2
        repeat (go_quiet (fail);try go_wp2)
        go_roundg k1
        case measure=>have:=HK1.out;omega
        case rel=>exact ⟨(wrap64 (x5_1 + 1)),(by first | rfl | (simp;done) | (simp [*];done)),H', ⟨by have:=HK1.out;omega⟩,by repeat (first | exact Drawn0.refl _ | apply Drawn0.step)⟩
       ·rw [if_neg c7] at H
        have c7b0 : ((rd l0 x5_1) == (rd l1 x5_1)) = false:=beq_eq_false_iff_ne.mpr c7
        have c7b1 : ((rd l0 x5_1) != (rd l1 x5_1)) = true:=bne_iff_ne.mpr c7
        obtain rfl:=Option.some.inj H
        have p480 : 0 ≤ (x5_1 : Int):=oT_ (by first | (with_reducible assumption) | assumption)
        have q480 : x5_1 < (l0.length : Int):=oT_ (by first | (with_reducible assumption) | assumption)
        obtain ⟨ad480,e480,hx480_0⟩:=Kd.at_int HR0.out x5_1 p480 q480
        cases e480
        replace p480:=eq_true p480
        replace q480:=eq_true q480
        have p481 : 0 ≤ (x5_1 : Int):=oT_ (by first | (with_reducible assumption) | assumption)
        have q481 : x5_1 < (l1.length : Int):=oT_ (by first | (with_reducible assumption) | assumption)
        obtain ⟨ad481,e481,hx481_0⟩:=Kd.at_int HR1.out x5_1 p481 q481
        cases e481
        replace p481:=eq_true p481
        replace q481:=eq_true q481
        go_wp2
        repeat (go_quiet (fail);try go_wp2)
        go_ret
        exact ⟨by first | rfl | (simp;done) | (simp [*];done),by repeat (first | exact Drawn0.refl _ | apply Drawn0.step)⟩
      ·rw [if_neg c6] at H
       exact absurd H (by simp)
     ·rw [if_neg c5] at H
      exact absurd H (by simp)
    ·rw [if_neg c4] at H
     have c4b0 : decide (x5_1 < (l0.length : Int)) = false:=decide_eq_false c4
     clear c4
     obtain rfl:=Option.some.inj H
     go_wp2
     repeat (go_quiet (fail);try go_wp2)
     go_ret
     exact ⟨by first | rfl | (simp;done) | (simp [*];done),by repeat (first | exact Drawn0.refl _ | apply Drawn0.step)⟩
 ·rw [if_neg c3] at H
  have c3b0 : ((l0.length : Int) == (l1.length : Int)) = false:=beq_eq_false_iff_ne.mpr c3
  have c3b1 : ((l0.length : Int) != (l1.length : Int)) = true:=bne_iff_ne.mpr c3
  have c3b2 : (l0.length == l1.length) = false:=by first | simpa using c3 | (simp at c3 ⊢;omega)
  obtain rfl:=Option.some.inj H
  go_enter Try.func29,Try.ntmps29
  go_wp2
  repeat (go_quiet (fail);try go_wp2)
  go_ret
  exact ⟨by first | rfl | (simp;done) | (simp [*];done),by repeat (first | exact Drawn0.refl _ | apply Drawn0.step)⟩
def impl_sameTexts.l0 : Nat → List ByteArray → List ByteArray → Int → Int → Option (Bool)
 | 0,_,_,_,_=>none
 | k + 1,x0,x1,x12,x13=>if x13 < x12 then (if 0 ≤ x13 then (if x13 < (x0.length : Int) then (if x13 < (x1.length : Int) then (if (rdOf ByteArray.empty x0 x13).toList = (rdOf ByteArray.empty x1 x13).toList then (impl_sameTexts.l0 k x0 x1 x12 (wrap64 (x13 + 1))) else (some false)) else (none)) else (none)) else (none)) else (some true)
def impl_sameTexts.f (k : Nat) (l0 : List ByteArray) (l1 : List ByteArray) : Option (Bool):=if (l0.length : Int) = (l1.length : Int) then (impl_sameTexts.l0 k l0 l1 (l0.length : Int) 0) else (some false)
theorem impl_sameTexts.mono_l : ∀ k,(∀ y0 y1 y2 y3,LeO (impl_sameTexts.l0 k y0 y1 y2 y3) (impl_sameTexts.l0 (k + 1) y0 y1 y2 y3))
 | 0=>fun _ _ _ _ r h=>by simp [impl_sameTexts.l0] at h
 | k + 1=>by
  have ih0:=impl_sameTexts.mono_l k
  ·intro y0 y1 y2 y3
   unfold impl_sameTexts.l0
   repeat' first
   | (with_reducible exact ih0 _ _ _ _)
   | (with_reducible exact LeO.refl _)
   | (with_reducible exact LeO.none _)
   | (with_reducible refine LeO.ite ?_ ?_)
   | (with_reducible refine LeO.bind ?_ (fun _=>?_))
   | exact ih0 _ _ _ _
   | exact LeO.none _
   | refine LeO.ite ?_ ?_
   | refine LeO.bind ?_ (fun _=>?_)
theorem impl_sameTexts.mono : ∀ a0 a1 k,LeO (impl_sameTexts.f k a0 a1) (impl_sameTexts.f (k + 1) a0 a1):=by
 intro a0 a1 k
 have ih0:=impl_sameTexts.mono_l k
 unfold impl_sameTexts.f
 repeat' first
   | (with_reducible exact ih0 _ _ _ _)
   | (with_reducible exact LeO.refl _)
   | (with_reducible exact LeO.none _)
   | (with_reducible refine LeO.ite ?_ ?_)
   | (with_reducible refine LeO.bind ?_ (fun _=>?_))
   | exact ih0 _ _ _ _
   | exact LeO.none _
   | refine LeO.ite ?_ ?_
   | refine LeO.bind ?_ (fun _=>?_)
set_option maxHeartbeats 8000000 in
set_option maxRecDepth 100000 in
theorem impl_sameTexts.calls (k : Nat) (A0 : Option Addr) (c0 : Nat) (l0 : List ByteArray) (A1 : Option Addr) (c1 : Nat) (l1 : List ByteArray) (r : Bool) (w : World) (hr0 : Kd.C Kd.string w A0 l0.length l0) (hc0 : l0.length ≤ c0) (hr1 : Kd.C Kd.string w A1 l1.length l1) (hc1 : l1.length ≤ c1) (h : impl_sameTexts.f k l0 l1 = some r) :
  Calls Try.prog 90 #[.slice A0 l0.length c0,.slice A1 l1.length c1] w fun e w'=>e = .returned (.bool r) ∧ Drawn0 w w':=by
 have HR0:=aM_ hr0
 have HC0:=aM_ hc0
 clear hr0 hc0
 have HR1:=aM_ hr1
 have HC1:=aM_ hc1
 clear hr1 hc1
 have H : (if (l0.length : Int) = (l1.length : Int) then (impl_sameTexts.l0 k l0 l1 (l0.length : Int) 0) else (some false)) = some r:=h
 clear h
 by_cases c3 : (l0.length : Int) = (l1.length : Int)
 ·rw [if_pos c3] at H
  have c3b0 : ((l0.length : Int) == (l1.length : Int)) = true:=beq_iff_eq.mpr c3
  have c3b1 : ((l0.length : Int) != (l1.length : Int)) = false:=bne_eq_false_iff_eq.mpr c3
  have c3b2 : (l0.length == l1.length) = true:=by first | simpa using c3 | (simp at c3 ⊢;omega)
  clear c3
  have H':=aM_ H
  clear H
  go_enter Try.func90,Try.ntmps90
  go_wp2
  repeat (go_quiet (fail);try go_wp2)
  (try simp only [Act.put,sI_,sS_,sZ_])
  go_loopg [13] k (fun kq v13 w'=>∃ (x13_1 : Int),v13 = .int .i64 x13_1 ∧ Aside0 (impl_sameTexts.l0 kq l0 l1 (l0.length : Int) x13_1 = some r) ∧ Aside0 (kq ≤ k) ∧ Drawn0 w w')
  case atStart=>exact ⟨(0),(by first | rfl | (simp;done) | (simp [*];done)),H', ⟨Nat.le_refl _⟩,by repeat (first | exact Drawn0.refl _ | apply Drawn0.step)⟩
  case round =>
   clear H'
   clear c3b0 c3b1 c3b2
   obtain ⟨x13_1,rfl,HA,HK1,⟨m1,rfl⟩⟩:=hrel
   cases gk with
   | zero=>exact absurd HA.out (by simp [impl_sameTexts.l0])
   | succ k1 =>
    have H:=HA.out
    clear HA
    simp only [impl_sameTexts.l0] at H
    by_cases c4 : x13_1 < (l0.length : Int)
    ·rw [if_pos c4] at H
     have c4b0 : decide (x13_1 < (l0.length : Int)) = true:=decide_eq_true c4
     clear c4
     by_cases c5 : 0 ≤ x13_1
     ·rw [if_pos c5] at H
      have c5b0 : decide (0 ≤ x13_1) = true:=decide_eq_true c5
      clear c5
      by_cases c6 : x13_1 < (l0.length : Int)
      ·rw [if_pos c6] at H
       have c6b0 : decide (x13_1 < (l0.length : Int)) = true:=decide_eq_true c6
       clear c6
       by_cases c7 : x13_1 < (l1.length : Int)
       ·rw [if_pos c7] at H
        have c7b0 : decide (x13_1 < (l1.length : Int)) = true:=decide_eq_true c7
        clear c7
        by_cases c8 : (rdOf ByteArray.empty l0 x13_1).toList = (rdOf ByteArray.empty l1 x13_1).toList
        ·rw [if_pos c8] at H
         have c8b0 : ((rdOf ByteArray.empty l0 x13_1).toList == (rdOf ByteArray.empty l1 x13_1).toList) = true:=beq_iff_eq.mpr c8
         have c8b1 : ((rdOf ByteArray.empty l0 x13_1).toList != (rdOf ByteArray.empty l1 x13_1).toList) = false:=bne_eq_false_iff_eq.mpr c8
         clear c8
         have H':=aM_ H
         clear H
         have p482 : 0 ≤ (x13_1 : Int):=oT_ (by first | (with_reducible assumption) | assumption)
         have q482 : x13_1 < (l0.length : Int):=oT_ (by first | (with_reducible assumption) | assumption)
         obtain ⟨ad482,e482,hx482_0⟩:=Kd.at_string HR0.out x13_1 p482 q482
         cases e482
         replace p482:=eq_true p482
         replace q482:=eq_true q482
         have p483 : 0 ≤ (x13_1 : Int):=oT_ (by first | (with_reducible assumption) | assumption)
         have q483 : x13_1 < (l1.length : Int):=oT_ (by first | (with_reducible assumption) | assumption)
         obtain ⟨ad483,e483,hx483_0⟩:=Kd.at_string HR1.out x13_1 p483 q483
         cases e483
         replace p483:=eq_true p483
         replace q483:=eq_true q483
         go_wp2
         repeat (go_quiet (fail);try go_wp2)
         go_roundg k1
         case measure=>have:=HK1.out;omega
         case rel=>exact ⟨(wrap64 (x13_1 + 1)),(by first | rfl | (simp;done) | (simp [*];done)),H', ⟨by have:=HK1.out;omega⟩,by repeat (first | exact Drawn0.refl _ | apply Drawn0.step)⟩
        ·rw [if_neg c8] at H
         have c8b0 : ((rdOf ByteArray.empty l0 x13_1).toList == (rdOf ByteArray.empty l1 x13_1).toList) = false:=beq_eq_false_iff_ne.mpr c8
         have c8b1 : ((rdOf ByteArray.empty l0 x13_1).toList != (rdOf ByteArray.empty l1 x13_1).toList) = true:=bne_iff_ne.mpr c8
         obtain rfl:=Option.some.inj H
         have p482 : 0 ≤ (x13_1 : Int):=oT_ (by first | (with_reducible assumption) | assumption)
         have q482 : x13_1 < (l0.length : Int):=oT_ (by first | (with_reducible assumption) | assumption)
         obtain ⟨ad482,e482,hx482_0⟩:=Kd.at_string HR0.out x13_1 p482 q482
         cases e482
         replace p482:=eq_true p482
         replace q482:=eq_true q482
         have p483 : 0 ≤ (x13_1 : Int):=oT_ (by first | (with_reducible assumption) | assumption)
         have q483 : x13_1 < (l1.length : Int):=oT_ (by first | (with_reducible assumption) | assumption)
         obtain ⟨ad483,e483,hx483_0⟩:=Kd.at_string HR1.out x13_1 p483 q483
         cases e483
         replace p483:=eq_true p483
         replace q483:=eq_true q483
         go_wp2
         repeat (go_quiet (fail);try go_wp2)
         go_ret
         exact ⟨by first | rfl | (simp;done) | (simp [*];done),by repeat (first | exact Drawn0.refl _ | apply Drawn0.step)⟩
       ·rw [if_neg c7] at H
        exact absurd H (by simp)
      ·rw [if_neg c6] at H
       exact absurd H (by simp)
     ·rw [if_neg c5] at H
      exact absurd H (by simp)
    ·rw [if_neg c4] at H
     have c4b0 : decide (x13_1 < (l0.length : Int)) = false:=decide_eq_false c4
     clear c4
     obtain rfl:=Option.some.inj H
     go_wp2
     repeat (go_quiet (fail);try go_wp2)
     go_ret
     exact ⟨by first | rfl | (simp;done) | (simp [*];done),by repeat (first | exact Drawn0.refl _ | apply Drawn0.step)⟩
 ·rw [if_neg c3] at H
  have c3b0 : ((l0.length : Int) == (l1.length : Int)) = false:=beq_eq_false_iff_ne.mpr c3
  have c3b1 : ((l0.length : Int) != (l1.length : Int)) = true:=bne_iff_ne.mpr c3
  have c3b2 : (l0.length == l1.length) = false:=by first | simpa using c3 | (simp at c3 ⊢;omega)
  obtain rfl:=Option.some.inj H
  go_enter Try.func90,Try.ntmps90
  go_wp2
  repeat (go_quiet (fail);try go_wp2)
  go_ret
  exact ⟨by first | rfl | (simp;done) | (simp [*];done),by repeat (first | exact Drawn0.refl _ | apply Drawn0.step)⟩
def impl_sameInts.l0 : Nat → List Int → List Int → Int → Int → Option (Bool)
 | 0,_,_,_,_=>none
 | k + 1,x0,x1,x12,x13=>if x13 < x12 then (if 0 ≤ x13 then (if x13 < (x0.length : Int) then (if x13 < (x1.length : Int) then (if (rd x0 x13) = (rd x1 x13) then (impl_sameInts.l0 k x0 x1 x12 (wrap64 (x13 + 1))) else (some false)) else (none)) else (none)) else (none)) else (some true)
def impl_sameInts.f (k : Nat) (l0 : List Int) (l1 : List Int) : Option (Bool):=if (l0.length : Int) = (l1.length : Int) then (impl_sameInts.l0 k l0 l1 (l0.length : Int) 0) else (some false)
theorem impl_sameInts.mono_l : ∀ k,(∀ y0 y1 y2 y3,LeO (impl_sameInts.l0 k y0 y1 y2 y3) (impl_sameInts.l0 (k + 1) y0 y1 y2 y3))
 | 0=>fun _ _ _ _ r h=>by simp [impl_sameInts.l0] at h
 | k + 1=>by
  have ih0:=impl_sameInts.mono_l k
  ·intro y0 y1 y2 y3
   unfold impl_sameInts.l0
   repeat' first
   | (with_reducible exact ih0 _ _ _ _)
   | (with_reducible exact LeO.refl _)
   | (with_reducible exact LeO.none _)
   | (with_reducible refine LeO.ite ?_ ?_)
   | (with_reducible refine LeO.bind ?_ (fun _=>?_))
   | exact ih0 _ _ _ _
   | exact LeO.none _
   | refine LeO.ite ?_ ?_
   | refine LeO.bind ?_ (fun _=>?_)
theorem impl_sameInts.mono : ∀ a0 a1 k,LeO (impl_sameInts.f k a0 a1) (impl_sameInts.f (k + 1) a0 a1):=by
 intro a0 a1 k
 have ih0:=impl_sameInts.mono_l k
 unfold impl_sameInts.f
 repeat' first
   | (with_reducible exact ih0 _ _ _ _)
   | (with_reducible exact LeO.refl _)
   | (with_reducible exact LeO.none _)
   | (with_reducible refine LeO.ite ?_ ?_)
   | (with_reducible refine LeO.bind ?_ (fun _=>?_))
   | exact ih0 _ _ _ _
   | exact LeO.none _
   | refine LeO.ite ?_ ?_
   | refine LeO.bind ?_ (fun _=>?_)
set_option maxHeartbeats 8000000 in
set_option maxRecDepth 100000 in
theorem impl_sameInts.calls (k : Nat) (A0 : Option Addr) (c0 : Nat) (l0 : List Int) (A1 : Option Addr) (c1 : Nat) (l1 : List Int) (r : Bool) (w : World) (hr0 : Kd.C (Kd.int .i64) w A0 l0.length l0) (hc0 : l0.length ≤ c0) (hr1 : Kd.C (Kd.int .i64) w A1 l1.length l1) (hc1 : l1.length ≤ c1) (h : impl_sameInts.f k l0 l1 = some r) :
  Calls Try.prog 91 #[.slice A0 l0.length c0,.slice A1 l1.length c1] w fun e w'=>e = .returned (.bool r) ∧ Drawn0 w w':=by
 have HR0:=aM_ hr0
 have HC0:=aM_ hc0
 clear hr0 hc0
 have HR1:=aM_ hr1
 have HC1:=aM_ hc1
 clear hr1 hc1
 have H : (if (l0.length : Int) = (l1.length : Int) then (impl_sameInts.l0 k l0 l1 (l0.length : Int) 0) else (some false)) = some r:=h
 clear h
 by_cases c3 : (l0.length : Int) = (l1.length : Int)
 ·rw [if_pos c3] at H
  have c3b0 : ((l0.length : Int) == (l1.length : Int)) = true:=beq_iff_eq.mpr c3
  have c3b1 : ((l0.length : Int) != (l1.length : Int)) = false:=bne_eq_false_iff_eq.mpr c3
  have c3b2 : (l0.length == l1.length) = true:=by first | simpa using c3 | (simp at c3 ⊢;omega)
  clear c3
  have H':=aM_ H
  clear H
  go_enter Try.func91,Try.ntmps91
  go_wp2
  repeat (go_quiet (fail);try go_wp2)
  (try simp only [Act.put,sI_,sS_,sZ_])
  go_loopg [13] k (fun kq v13 w'=>∃ (x13_1 : Int),v13 = .int .i64 x13_1 ∧ Aside0 (impl_sameInts.l0 kq l0 l1 (l0.length : Int) x13_1 = some r) ∧ Aside0 (kq ≤ k) ∧ Drawn0 w w')
  case atStart=>exact ⟨(0),(by first | rfl | (simp;done) | (simp [*];done)),H', ⟨Nat.le_refl _⟩,by repeat (first | exact Drawn0.refl _ | apply Drawn0.step)⟩
  case round =>
   clear H'
   clear c3b0 c3b1 c3b2
   obtain ⟨x13_1,rfl,HA,HK1,⟨m1,rfl⟩⟩:=hrel
   cases gk with
   | zero=>exact absurd HA.out (by simp [impl_sameInts.l0])
   | succ k1 =>
    have H:=HA.out
    clear HA
    simp only [impl_sameInts.l0] at H
    by_cases c4 : x13_1 < (l0.length : Int)
    ·rw [if_pos c4] at H
     have c4b0 : decide (x13_1 < (l0.length : Int)) = true:=decide_eq_true c4
     clear c4
     by_cases c5 : 0 ≤ x13_1
     ·rw [if_pos c5] at H
      have c5b0 : decide (0 ≤ x13_1) = true:=decide_eq_true c5
      clear c5
      by_cases c6 : x13_1 < (l0.length : Int)
      ·rw [if_pos c6] at H
       have c6b0 : decide (x13_1 < (l0.length : Int)) = true:=decide_eq_true c6
       clear c6
       by_cases c7 : x13_1 < (l1.length : Int)
       ·rw [if_pos c7] at H
        have c7b0 : decide (x13_1 < (l1.length : Int)) = true:=decide_eq_true c7
        clear c7
        by_cases c8 : (rd l0 x13_1) = (rd l1 x13_1)
        ·rw [if_pos c8] at H
         have c8b0 : ((rd l0 x13_1) == (rd l1 x13_1)) = true:=beq_iff_eq.mpr c8
         have c8b1 : ((rd l0 x13_1) != (rd l1 x13_1)) = false:=bne_eq_false_iff_eq.mpr c8
         clear c8
         have H':=aM_ H
         clear H
         have p484 : 0 ≤ (x13_1 : Int):=oT_ (by first | (with_reducible assumption) | assumption)
         have q484 : x13_1 < (l0.length : Int):=oT_ (by first | (with_reducible assumption) | assumption)
         obtain ⟨ad484,e484,hx484_0⟩:=Kd.at_int HR0.out x13_1 p484 q484
         cases e484
         replace p484:=eq_true p484
         replace q484:=eq_true q484
         have p485 : 0 ≤ (x13_1 : Int):=oT_ (by first | (with_reducible assumption) | assumption)
         have q485 : x13_1 < (l1.length : Int):=oT_ (by first | (with_reducible assumption) | assumption)
         obtain ⟨ad485,e485,hx485_0⟩:=Kd.at_int HR1.out x13_1 p485 q485
         cases e485
         replace p485:=eq_true p485
         replace q485:=eq_true q485
         go_wp2
         repeat (go_quiet (fail);try go_wp2)
         go_roundg k1
         case measure=>have:=HK1.out;omega
         case rel=>exact ⟨(wrap64 (x13_1 + 1)),(by first | rfl | (simp;done) | (simp [*];done)),H', ⟨by have:=HK1.out;omega⟩,by repeat (first | exact Drawn0.refl _ | apply Drawn0.step)⟩
        ·rw [if_neg c8] at H
         have c8b0 : ((rd l0 x13_1) == (rd l1 x13_1)) = false:=beq_eq_false_iff_ne.mpr c8
         have c8b1 : ((rd l0 x13_1) != (rd l1 x13_1)) = true:=bne_iff_ne.mpr c8
         obtain rfl:=Option.some.inj H
         have p484 : 0 ≤ (x13_1 : Int):=oT_ (by first | (with_reducible assumption) | assumption)
         have q484 : x13_1 < (l0.length : Int):=oT_ (by first | (with_reducible assumption) | assumption)
         obtain ⟨ad484,e484,hx484_0⟩:=Kd.at_int HR0.out x13_1 p484 q484
         cases e484
         replace p484:=eq_true p484
         replace q484:=eq_true q484
         have p485 : 0 ≤ (x13_1 : Int):=oT_ (by first | (with_reducible assumption) | assumption)
         have q485 : x13_1 < (l1.length : Int):=oT_ (by first | (with_reducible assumption) | assumption)
         obtain ⟨ad485,e485,hx485_0⟩:=Kd.at_int HR1.out x13_1 p485 q485
         cases e485
         replace p485:=eq_true p485
         replace q485:=eq_true q485
         go_wp2
         repeat (go_quiet (fail);try go_wp2)
         go_ret
         exact ⟨by first | rfl | (simp;done) | (simp [*];done),by repeat (first | exact Drawn0.refl _ | apply Drawn0.step)⟩
       ·rw [if_neg c7] at H
        exact absurd H (by simp)
      ·rw [if_neg c6] at H
       exact absurd H (by simp)
     ·rw [if_neg c5] at H
      exact absurd H (by simp)
    ·rw [if_neg c4] at H
     have c4b0 : decide (x13_1 < (l0.length : Int)) = false:=decide_eq_false c4
     clear c4
     obtain rfl:=Option.some.inj H
     go_wp2
     repeat (go_quiet (fail);try go_wp2)
     go_ret
     exact ⟨by first | rfl | (simp;done) | (simp [*];done),by repeat (first | exact Drawn0.refl _ | apply Drawn0.step)⟩
 ·rw [if_neg c3] at H
  have c3b0 : ((l0.length : Int) == (l1.length : Int)) = false:=beq_eq_false_iff_ne.mpr c3
  have c3b1 : ((l0.length : Int) != (l1.length : Int)) = true:=bne_iff_ne.mpr c3
  have c3b2 : (l0.length == l1.length) = false:=by first | simpa using c3 | (simp at c3 ⊢;omega)
  obtain rfl:=Option.some.inj H
  go_enter Try.func91,Try.ntmps91
  go_wp2
  repeat (go_quiet (fail);try go_wp2)
  go_ret
  exact ⟨by first | rfl | (simp;done) | (simp [*];done),by repeat (first | exact Drawn0.refl _ | apply Drawn0.step)⟩
end Go.Proofs.Ytllgmgpfdnofmaa.PFnNodes
