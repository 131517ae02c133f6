import Derived.Test.YtllgmgpfdnofmaaZNDPFnNodesx0
import Derived.Test.YtllgmgpfdnofmaaZNDPFnNodesx11
import Derived.Test.YtllgmgpfdnofmaaZNDPFnNodesx12
import Derived.Test.YtllgmgpfdnofmaaZNDPFnNodesx13
namespace Go.Proofs.Ytllgmgpfdnofmaa.PFnNodes
open Go.RowKit Go.Proofs.YtllgmgpfdnofmaaW.PrintWords Go.Proofs.YtllgmgpfdnofmaaW.PrintLast Go.Proofs.YtllgmgpfdnofmaaW.PrintMore Go.Proofs.Ytllgmgpfdnofmaa.Xtra
attribute [local go_sem] max2_int min2_int max_two min_two max_three min_three max_four min_four str_leq str_gtr str_geq setCell_drewN cell_set2 cell_set3   -- for this text's walks alone
set_option linter.unusedVariables false
set_option linter.unusedSimpArgs false
def spec_l14Any.f (k : Nat) (s0_0 : List Int) (s0_1 : Int) (s0_2 : Int) : Option (Bool × List ByteArray × List ByteArray × List Int × Int × Int):=(spec_l14Draw.f k s0_0 s0_1 s0_2).bind fun bt360=>((spec_l1Below.f s0_0 bt360.2.2.2.2.1 bt360.2.2.2.2.2 12).bind fun bt373=>(if bt373.1 = 0 then (some (!bt360.1,bt360.2.1,bt360.2.2.1,bt360.2.2.2.1,bt373.2.1,bt373.2.2)) else (if bt373.1 = 1 then (if 49 ≤ 281474976710656 then ((spec_l1Str.f s0_0 bt373.2.1 bt373.2.2 (([(⟨#[97]⟩ : ByteArray),(⟨#[122]⟩ : ByteArray),strOfNums (List.replicate 49 0)] : List ByteArray))).bind fun bt382=>(if bt360.2.1.length < 8796093022208 then (some (bt360.1,(bt360.2.1 ++ [bt382.1]),bt360.2.2.1,bt360.2.2.2.1,bt382.2.1,bt382.2.2)) else (none))) else (none)) else (if bt373.1 = 2 then (if 61 ≤ 281474976710656 then ((spec_l1Str.f s0_0 bt373.2.1 bt373.2.2 (([(⟨#[118]⟩ : ByteArray),strOfNums (List.replicate 61 0)] : List ByteArray))).bind fun bt394=>(if bt360.2.2.1.length < 8796093022208 then (some (bt360.1,bt360.2.1,(bt360.2.2.1 ++ [bt394.1]),bt360.2.2.2.1,bt394.2.1,bt394.2.2)) else (none))) else (none)) else (if bt373.1 = 3 then ((spec_l1Int.f s0_0 bt373.2.1 bt373.2.2 (([1,2,47,48] : List Int))).bind fun bt403=>(if bt360.2.2.2.1.length < 17592186044416 then (some (bt360.1,bt360.2.1,bt360.2.2.1,(bt360.2.2.2.1 ++ [bt403.1]),bt403.2.1,bt403.2.2)) else (none))) else (some (bt360.1,bt360.2.1,bt360.2.2.1,bt360.2.2.2.1,bt373.2.1,bt373.2.2)))))))
theorem spec_l14Any.mono : ∀ a0 a1 a2 k,LeO (spec_l14Any.f k a0 a1 a2) (spec_l14Any.f (k + 1) a0 a1 a2):=by
 intro a0 a1 a2 k
 unfold spec_l14Any.f
 repeat' first
   | (with_reducible exact spec_l14Draw.mono _ _ _ _)
   | (with_reducible exact LeO.refl _)
   | (with_reducible exact LeO.none _)
   | (with_reducible refine LeO.ite ?_ ?_)
   | (with_reducible refine LeO.bind ?_ (fun _=>?_))
   | exact spec_l14Draw.mono _ _ _ _
   | exact LeO.none _
   | refine LeO.ite ?_ ?_
   | refine LeO.bind ?_ (fun _=>?_)
def spec_l14Any.T6 : Bool × List (List Nat × List Nat):=(true,[([],[]),([0],[0]),([],[]),([],[]),([3],[3]),([4],[4]),([2,5],[2,5]),([6],[6]),([1,7,6],[1,7]),([0,1,2,3,4,5,6,7,8],[]),([9,8,8,0,1,2,3,4,5,6,7,8],[8,9])])
def spec_l14Any.B6 : List Nat:=[0,1,0,0,8,24,60,124,255,511,1023]
theorem spec_l14Any.tab6 : rtab .any (opsOf Try.f84 6) = spec_l14Any.T6:=by kernel_rfl
theorem spec_l14Any.bits6 : waitsOk spec_l14Any.T6.2 spec_l14Any.B6 = true:=by kernel_rfl
def spec_l14Any.T8 : Bool × List (List Nat × List Nat):=(true,[([],[]),([0],[0]),([],[]),([],[]),([3],[3]),([4],[4]),([2,5],[2,5]),([6],[6]),([1,7,6],[1,7]),([0,1,2,3,4,5,6,7,8],[]),([9,8,8,0,1,2,3,4,5,6,7,8],[8,9])])
def spec_l14Any.B8 : List Nat:=[0,1,0,0,8,24,60,124,255,511,1023]
theorem spec_l14Any.tab8 : rtab .any (opsOf Try.f84 8) = spec_l14Any.T8:=by kernel_rfl
theorem spec_l14Any.bits8 : waitsOk spec_l14Any.T8.2 spec_l14Any.B8 = true:=by kernel_rfl
def spec_l14Any.T10 : Bool × List (List Nat × List Nat):=(true,[([],[]),([0],[0]),([],[]),([],[]),([2,3],[2,3]),([4],[4]),([1,5,4],[1,5]),([0,1,2,3,4,5,6],[]),([7,6,6,0,1,2,3,4,5,6],[6,7])])
def spec_l14Any.B10 : List Nat:=[0,1,0,0,12,28,63,127,255]
theorem spec_l14Any.tab10 : rtab .any (opsOf Try.f84 10) = spec_l14Any.T10:=by kernel_rfl
theorem spec_l14Any.bits10 : waitsOk spec_l14Any.T10.2 spec_l14Any.B10 = true:=by kernel_rfl
set_option maxHeartbeats 8000000 in
set_option maxRecDepth 100000 in
theorem spec_l14Any.calls (k : Nat) (g : Nat) (s0_0 : List Int) (s0_1 : Int) (s0_2 : Int) (r1 : Bool) (r2 : List ByteArray) (r3 : List ByteArray) (r4 : List Int) (r5 : Int) (r6 : Int) (w0 w : World) (hI : J155 w0 w g s0_0 s0_1 s0_2) (hB : Below w0.heap.size w0 w) (h : spec_l14Any.f k s0_0 s0_1 s0_2 = some (r1,r2,r3,r4,r5,r6)) :
  Calls Try.prog 84 #[.pointer (some ⟨g,0,none⟩)] w fun e w'=>∃ v1_ v2_ v3_ : Value,e = .returned (.agg #[.bool r1,v1_,v2_,v3_]) ∧ Kd.R Kd.string 9 w' w.heap.size (fun k_=>some k_ ≠ (v2_ : Value).ownBlock) v1_ r2 ∧ Kd.R Kd.string 9 w' w.heap.size (fun k_=>some k_ ≠ (v1_ : Value).ownBlock) v2_ r3 ∧ Kd.R (Kd.int .i64) 3 w' w.heap.size (fun _=>True) v3_ r4 ∧ J155 w0 w' g s0_0 r5 r6 ∧ Below w0.heap.size w0 w' ∧ KeepBut w w' g none:=by
 have hu29:=Try.underlying29
 have HI0:=aM_ hI
 have HK:=aM_ (KeepBut.refl w g none)
 have HL:=aM_ hB.size
 clear hI
 have HW0:=aM_ hB.size
 have HB:=aM_ hB
 clear hB
 have H : ((spec_l14Draw.f k s0_0 s0_1 s0_2).bind fun bt360=>((spec_l1Below.f s0_0 bt360.2.2.2.2.1 bt360.2.2.2.2.2 12).bind fun bt373=>(if bt373.1 = 0 then (some (!bt360.1,bt360.2.1,bt360.2.2.1,bt360.2.2.2.1,bt373.2.1,bt373.2.2)) else (if bt373.1 = 1 then (if 49 ≤ 281474976710656 then ((spec_l1Str.f s0_0 bt373.2.1 bt373.2.2 (([(⟨#[97]⟩ : ByteArray),(⟨#[122]⟩ : ByteArray),strOfNums (List.replicate 49 0)] : List ByteArray))).bind fun bt382=>(if bt360.2.1.length < 8796093022208 then (some (bt360.1,(bt360.2.1 ++ [bt382.1]),bt360.2.2.1,bt360.2.2.2.1,bt382.2.1,bt382.2.2)) else (none))) else (none)) else (if bt373.1 = 2 then (if 61 ≤ 281474976710656 then ((spec_l1Str.f s0_0 bt373.2.1 bt373.2.2 (([(⟨#[118]⟩ : ByteArray),strOfNums (List.replicate 61 0)] : List ByteArray))).bind fun bt394=>(if bt360.2.2.1.length < 8796093022208 then (some (bt360.1,bt360.2.1,(bt360.2.2.1 ++ [bt394.1]),bt360.2.2.2.1,bt394.2.1,bt394.2.2)) else (none))) else (none)) else (if bt373.1 = 3 then ((spec_l1Int.f s0_0 bt373.2.1 bt373.2.2 (([1,2,47,48] : List Int))).bind fun bt403=>(if bt360.2.2.2.1.length < 17592186044416 then (some (bt360.1,bt360.2.1,bt360.2.2.1,(bt360.2.2.2.1 ++ [bt403.1]),bt403.2.1,bt403.2.2)) else (none))) else (some (bt360.1,bt360.2.1,bt360.2.2.1,bt360.2.2.2.1,bt373.2.1,bt373.2.2)))))))) = some (r1,r2,r3,r4,r5,r6):=h
 clear h
 replace H:=oB_ H
 obtain ⟨⟨t360,t361,t364,t367,t370,t371⟩,A20,H⟩:=H
 replace H : ((spec_l1Below.f s0_0 t370 t371 12).bind fun bt373=>(if bt373.1 = 0 then (some (!t360,t361,t364,t367,bt373.2.1,bt373.2.2)) else (if bt373.1 = 1 then (if 49 ≤ 281474976710656 then ((spec_l1Str.f s0_0 bt373.2.1 bt373.2.2 (([(⟨#[97]⟩ : ByteArray),(⟨#[122]⟩ : ByteArray),strOfNums (List.replicate 49 0)] : List ByteArray))).bind fun bt382=>(if t361.length < 8796093022208 then (some (t360,(t361 ++ [bt382.1]),t364,t367,bt382.2.1,bt382.2.2)) else (none))) else (none)) else (if bt373.1 = 2 then (if 61 ≤ 281474976710656 then ((spec_l1Str.f s0_0 bt373.2.1 bt373.2.2 (([(⟨#[118]⟩ : ByteArray),strOfNums (List.replicate 61 0)] : List ByteArray))).bind fun bt394=>(if t364.length < 8796093022208 then (some (t360,t361,(t364 ++ [bt394.1]),t367,bt394.2.1,bt394.2.2)) else (none))) else (none)) else (if bt373.1 = 3 then ((spec_l1Int.f s0_0 bt373.2.1 bt373.2.2 (([1,2,47,48] : List Int))).bind fun bt403=>(if t367.length < 17592186044416 then (some (t360,t361,t364,(t367 ++ [bt403.1]),bt403.2.1,bt403.2.2)) else (none))) else (some (t360,t361,t364,t367,bt373.2.1,bt373.2.2))))))) = some (r1,r2,r3,r4,r5,r6):=H
 have A2:=aM_ A20
 clear A20
 replace H:=oB_ H
 obtain ⟨⟨t373,t374,t375⟩,A30,H⟩:=H
 replace H : (if t373 = 0 then (some (!t360,t361,t364,t367,t374,t375)) else (if t373 = 1 then (if 49 ≤ 281474976710656 then ((spec_l1Str.f s0_0 t374 t375 (([(⟨#[97]⟩ : ByteArray),(⟨#[122]⟩ : ByteArray),strOfNums (List.replicate 49 0)] : List ByteArray))).bind fun bt382=>(if t361.length < 8796093022208 then (some (t360,(t361 ++ [bt382.1]),t364,t367,bt382.2.1,bt382.2.2)) else (none))) else (none)) else (if t373 = 2 then (if 61 ≤ 281474976710656 then ((spec_l1Str.f s0_0 t374 t375 (([(⟨#[118]⟩ : ByteArray),strOfNums (List.replicate 61 0)] : List ByteArray))).bind fun bt394=>(if t364.length < 8796093022208 then (some (t360,t361,(t364 ++ [bt394.1]),t367,bt394.2.1,bt394.2.2)) else (none))) else (none)) else (if t373 = 3 then ((spec_l1Int.f s0_0 t374 t375 (([1,2,47,48] : List Int))).bind fun bt403=>(if t367.length < 17592186044416 then (some (t360,t361,t364,(t367 ++ [bt403.1]),bt403.2.1,bt403.2.2)) else (none))) else (some (t360,t361,t364,t367,t374,t375)))))) = some (r1,r2,r3,r4,r5,r6):=H
 have A3:=aM_ A30
 clear A30
 by_cases c4 : t373 = 0
 ·rw [if_pos c4] at H
  have c4b0 : (t373 == 0) = true:=beq_iff_eq.mpr c4
  have c4b1 : (t373 != 0) = false:=bne_eq_false_iff_eq.mpr c4
  clear c4
  simp only [Option.some.injEq,Prod.mk.injEq] at H
  obtain ⟨rfl,rfl,rfl,rfl,rfl,rfl⟩:=H
  go_enter Try.func84,Try.ntmps84
  go_wp2_with (first | ((with_reducible refine gate_dst (N:=2) rfl ?_);refine box_event ?hg (N:=2) ?hd (cs:=#[.bool false,.slice none 0 0,.slice none 0 0,.slice none 0 0]) (t:=29) ?hr ?_;(case hd=>rfl);(case hg=>rfl);(case hr=>first | (go_simp;done) | (go_simp;rfl));intro gb359 hg w5 hbox hb;have n0_:=aM_ (J155.below (by repeat first | exact J155.z HI0 | apply J155.set_1 | apply J155.set_2 | refine J155.y ?_) hb);have n1_:=aM_ (KeepBut.trans (by exact eZ_ HK) (KeepBut.of_below hb g none) (.inl rfl));have n2_:=aM_ (bT_ (by have e0_:=aM_ (J155.ge HI0.out);exact bZ_ HB) hb);have n3_:=aM_ (hbox);have n4_:=aM_ ((by rw [hg];exact (keep_size (w:=w) (g:=g) (row:=none) (by exact eZ_ HK)) : w.heap.size ≤ gb359));have n5_:=aM_ ((Nat.le_trans HW0.out (by rw [hg];exact (keep_size (w:=w) (g:=g) (row:=none) (by exact eZ_ HK)) : w.heap.size ≤ gb359) : w0.heap.size ≤ gb359));have n6_:=aM_ ((by rw [hg];exact Nat.ne_of_lt (J155.lt (show J155 w0 _ g s0_0 s0_1 s0_2 from by repeat first | exact J155.z HI0 | apply J155.set_1 | apply J155.set_2 | refine J155.y ?_)) : g ≠ gb359));have n7_:=aM_ ((by rw [hg];exact Nat.ne_of_gt (J155.lt (show J155 w0 _ g s0_0 s0_1 s0_2 from by repeat first | exact J155.z HI0 | apply J155.set_1 | apply J155.set_2 | refine J155.y ?_)) : gb359 ≠ g));clear HI0 HK HB;have HI0:=n0_;have HK:=n1_;have HB:=n2_;have BK359:=n3_;have GW359:=n4_;have GE359:=n5_;have NB0_359:=n6_;have NB359_0:=n7_;clear n0_ n1_ n2_ n3_ n4_ n5_ n6_ n7_ hb hbox hg) | ((with_reducible refine gate_callee (f:=86) rfl ?_);refine goesL_ (some 5) rfl rfl Try.func86 (by kernel_rfl) rfl #[.pointer (some ⟨g,0,none⟩)] rfl (by (try simp only [mA_,mC_,mN_]);first | done | rfl | (simp only [lD_,lT_];rfl)) ?_;(with_reducible refine (spec_l14Draw.calls k g s0_0 s0_1 s0_2 t360 t361 t364 t367 t370 t371 w0 _ ?side1 ?side2 A2.out).mono ?_);(case side1=>repeat first | exact J155.z HI0 | apply J155.set_1 | apply J155.set_2 | refine J155.y ?_);(case side2=>have e0_:=aM_ (J155.ge HI0.out);exact bZ_ HB);rintro e w6 ⟨v362,v365,v368,rfl,ho0,ho1,ho2,hi,hb,hk⟩;refine ⟨_,rfl,?_⟩;have n0_:=aM_ (KeepBut.blk hk (g':=gb359) (o:=.cells #[.bool false,.slice none 0 0,.slice none 0 0,.slice none 0 0] 29 (0,0)) (by exact kZ_ BK359) NB359_0.out (by simp));have n1_:=aM_ (Kd.R_lower ho0 (keep_size (w:=w) (g:=g) (row:=none) (by exact eZ_ HK)));have n2_:=aM_ (Kd.R_lower ho1 (keep_size (w:=w) (g:=g) (row:=none) (by exact eZ_ HK)));have n3_:=aM_ (Kd.R_lower ho2 (keep_size (w:=w) (g:=g) (row:=none) (by exact eZ_ HK)));have n4_:=aM_ (KeepBut.trans (by exact eZ_ HK) hk (.inl rfl));have n5_:=aM_ (hb);have n6_:=aM_ (hi);clear BK359 HK HB HI0;have BK359:=n0_;have HO363:=n1_;have HO366:=n2_;have HO369:=n3_;have HK:=n4_;have HB:=n5_;have HI0:=n6_;clear n0_ n1_ n2_ n3_ n4_ n5_ n6_ hb hk hi ho0 ho1 ho2) | ((with_reducible refine gate_dst (N:=3) rfl ?_);refine box_event ?hg (N:=3) ?hd (cs:=#[.bool false,.slice none 0 0,.slice none 0 0,.slice none 0 0]) (t:=29) ?hr ?_;(case hd=>rfl);(case hg=>rfl);(case hr=>first | (go_simp;done) | (go_simp;rfl));intro gb372 hg w7 hbox hb;have n0_:=aM_ (Kd.R_below (by exact rZ_ HO363) hb);have n1_:=aM_ (Kd.R_below (by exact rZ_ HO366) hb);have n2_:=aM_ (Kd.R_below (by exact rZ_ HO369) hb);have n3_:=aM_ (J155.below (by repeat first | exact J155.z HI0 | apply J155.set_1 | apply J155.set_2 | refine J155.y ?_) hb);have n4_:=aM_ (blk_below (g:=gb359) (o:=.cells #[.bool false,.slice none 0 0,.slice none 0 0,.slice none 0 0] 29 (0,0)) (by exact kZ_ BK359) hb);have n5_:=aM_ (KeepBut.trans (by exact eZ_ HK) (KeepBut.of_below hb g none) (.inl rfl));have n6_:=aM_ (bT_ (by have e0_:=aM_ (J155.ge HI0.out);exact bZ_ HB) hb);have n7_:=aM_ (hbox);have n8_:=aM_ ((by rw [hg];exact (keep_size (w:=w) (g:=g) (row:=none) (by exact eZ_ HK)) : w.heap.size ≤ gb372));have n9_:=aM_ ((Nat.le_trans HW0.out (by rw [hg];exact (keep_size (w:=w) (g:=g) (row:=none) (by exact eZ_ HK)) : w.heap.size ≤ gb372) : w0.heap.size ≤ gb372));have n10_:=aM_ ((by rw [hg];exact Nat.ne_of_lt (blk_lt (g:=gb359) (o:=.cells #[.bool false,.slice none 0 0,.slice none 0 0,.slice none 0 0] 29 (0,0)) (by exact kZ_ BK359)) : gb359 ≠ gb372));have n11_:=aM_ ((by rw [hg];exact Nat.ne_of_gt (blk_lt (g:=gb359) (o:=.cells #[.bool false,.slice none 0 0,.slice none 0 0,.slice none 0 0] 29 (0,0)) (by exact kZ_ BK359)) : gb372 ≠ gb359));have n12_:=aM_ ((by rw [hg];exact Nat.ne_of_lt (J155.lt (show J155 w0 _ g s0_0 t370 t371 from by repeat first | exact J155.z HI0 | apply J155.set_1 | apply J155.set_2 | refine J155.y ?_)) : g ≠ gb372));have n13_:=aM_ ((by rw [hg];exact Nat.ne_of_gt (J155.lt (show J155 w0 _ g s0_0 t370 t371 from by repeat first | exact J155.z HI0 | apply J155.set_1 | apply J155.set_2 | refine J155.y ?_)) : gb372 ≠ g));clear HO363 HO366 HO369 HI0 BK359 HK HB;have HO363:=n0_;have HO366:=n1_;have HO369:=n2_;have HI0:=n3_;have BK359:=n4_;have HK:=n5_;have HB:=n6_;have BK372:=n7_;have GW372:=n8_;have GE372:=n9_;have NB359_372:=n10_;have NB372_359:=n11_;have NB0_372:=n12_;have NB372_0:=n13_;clear n0_ n1_ n2_ n3_ n4_ n5_ n6_ n7_ n8_ n9_ n10_ n11_ n12_ n13_ hb hbox hg;have hnb8:=NB372_359.out;have hnc8:=NB359_372.out;have hnb9:=NB372_0.out;have hnc9:=NB0_372.out;have hcz10_0 : w7.cell? ⟨gb372,0,none⟩ = some (.bool false):=(kC_ BK372.out 0).trans rfl;have hcz10_1 : w7.cell? ⟨gb372,1,none⟩ = some (.slice none 0 0):=(kC_ BK372.out 1).trans rfl;have hcz10_2 : w7.cell? ⟨gb372,2,none⟩ = some (.slice none 0 0):=(kC_ BK372.out 2).trans rfl;have hcz10_3 : w7.cell? ⟨gb372,3,none⟩ = some (.slice none 0 0):=(kC_ BK372.out 3).trans rfl;have hfz10_0:=kF_ BK372.out 0;have hfz10_1:=kF_ BK372.out 1;have hfz10_2:=kF_ BK372.out 2;have hfz10_3:=kF_ BK372.out 3;obtain ⟨Ao11,co11,eo11⟩:=Kd.R_slice HO363.out;subst eo11;obtain ⟨Ao12,co12,eo12⟩:=Kd.R_slice HO366.out;subst eo12;obtain ⟨Ao13,co13,eo13⟩:=Kd.R_slice HO369.out;subst eo13) | ((with_reducible refine gate_callee (f:=125) rfl ?_);refine goesL_ (some 7) rfl rfl Try.func125 (by kernel_rfl) rfl #[.pointer (some ⟨g,0,none⟩),.int .i64 12] rfl (by (try simp only [mA_,mC_,mN_]);first | done | rfl | (simp only [lD_,lT_];rfl)) ?_;(with_reducible refine (spec_l1Below.calls g s0_0 t370 t371 12 t373 t374 t375 w0 _ ?side1 ?side2 A3.out).mono ?_);(case side1=>repeat first | exact J155.z HI0 | apply J155.set_1 | apply J155.set_2 | refine J155.y ?_);(case side2=>have e0_:=aM_ (J155.ge HI0.out);exact bZ_ HB);rintro e w14 ⟨rfl,hi,hb,hk⟩;refine ⟨_,rfl,?_⟩;have n0_:=aM_ (KeepBut.blk hk (g':=gb359) (o:=.cells #[.bool false,.slice none 0 0,.slice none 0 0,.slice none 0 0] 29 (0,0)) (by exact kW_ BK359) NB359_0.out (by simp));have n1_:=aM_ (Kd.R_mono (Kd.R_keep (J155.apart (show J155 w0 _ g s0_0 t370 t371 from by repeat first | exact J155.z HI0 | apply J155.set_1 | apply J155.set_2 | refine J155.y ?_) (by (with_reducible repeat (first | apply rA_ | apply rN_ | apply rD_));exact (Kd.R_mono (Kd.R_far (p:=⟨gb372,3,none⟩) (Kd.R_far (p:=⟨gb372,2,none⟩) (Kd.R_far (p:=⟨gb372,1,none⟩) (Kd.R_far (p:=⟨gb372,0,none⟩) (Kd.R_types HO363.out BK372.out (by decide)) (fun _ hk=>hk.2) (.bool t360)) (fun _ hk=>hk.2) (.slice Ao11 t361.length co11)) (fun _ hk=>hk.2) (.slice Ao12 t364.length co12)) (fun _ hk=>hk.2) (.slice Ao13 t367.length co13)) (fun _ h_=>h_.1))) (by decide)) hk (fun _ h=>h.2)) (fun _ h=>h.1));have n2_:=aM_ (Kd.R_mono (Kd.R_keep (J155.apart (show J155 w0 _ g s0_0 t370 t371 from by repeat first | exact J155.z HI0 | apply J155.set_1 | apply J155.set_2 | refine J155.y ?_) (by (with_reducible repeat (first | apply rA_ | apply rN_ | apply rD_));exact (Kd.R_mono (Kd.R_far (p:=⟨gb372,3,none⟩) (Kd.R_far (p:=⟨gb372,2,none⟩) (Kd.R_far (p:=⟨gb372,1,none⟩) (Kd.R_far (p:=⟨gb372,0,none⟩) (Kd.R_types HO366.out BK372.out (by decide)) (fun _ hk=>hk.2) (.bool t360)) (fun _ hk=>hk.2) (.slice Ao11 t361.length co11)) (fun _ hk=>hk.2) (.slice Ao12 t364.length co12)) (fun _ hk=>hk.2) (.slice Ao13 t367.length co13)) (fun _ h_=>h_.1))) (by decide)) hk (fun _ h=>h.2)) (fun _ h=>h.1));have n3_:=aM_ (Kd.R_mono (Kd.R_keep (J155.apart (show J155 w0 _ g s0_0 t370 t371 from by repeat first | exact J155.z HI0 | apply J155.set_1 | apply J155.set_2 | refine J155.y ?_) (by (with_reducible repeat (first | apply rA_ | apply rN_ | apply rD_));exact (Kd.R_mono (Kd.R_far (p:=⟨gb372,3,none⟩) (Kd.R_far (p:=⟨gb372,2,none⟩) (Kd.R_far (p:=⟨gb372,1,none⟩) (Kd.R_far (p:=⟨gb372,0,none⟩) (Kd.R_types HO369.out BK372.out (by decide)) (fun _ hk=>hk.2) (.bool t360)) (fun _ hk=>hk.2) (.slice Ao11 t361.length co11)) (fun _ hk=>hk.2) (.slice Ao12 t364.length co12)) (fun _ hk=>hk.2) (.slice Ao13 t367.length co13)) (fun _ h_=>h_.1))) (by decide)) hk (fun _ h=>h.2)) (fun _ h=>h.1));have n4_:=aM_ (KeepBut.blk hk (g':=gb372) (o:=.cells #[.bool t360,.slice Ao11 t361.length co11,.slice Ao12 t364.length co12,.slice Ao13 t367.length co13] 29 (0,0)) (by (with_reducible repeat (first | refine kN_ ?_ _ | refine kD_ ?_ | refine kA_ ?_ _));refine kP_ (cs:=#[.bool t360,.slice Ao11 t361.length co11,.slice Ao12 t364.length co12,.slice none 0 0]) ?_ 3 _ rfl;(with_reducible repeat (first | refine kN_ ?_ _ | refine kD_ ?_ | refine kA_ ?_ _));refine kP_ (cs:=#[.bool t360,.slice Ao11 t361.length co11,.slice none 0 0,.slice none 0 0]) ?_ 2 _ rfl;(with_reducible repeat (first | refine kN_ ?_ _ | refine kD_ ?_ | refine kA_ ?_ _));refine kP_ (cs:=#[.bool t360,.slice none 0 0,.slice none 0 0,.slice none 0 0]) ?_ 1 _ rfl;(with_reducible repeat (first | refine kN_ ?_ _ | refine kD_ ?_ | refine kA_ ?_ _));refine kP_ (cs:=#[.bool false,.slice none 0 0,.slice none 0 0,.slice none 0 0]) ?_ 0 _ rfl;exact kZ_ BK372) NB372_0.out (by simp));have n5_:=aM_ (KeepBut.trans (by exact eZ_ HK) hk (.inl rfl));have n6_:=aM_ (hb);have n7_:=aM_ (hi);clear BK359 HO363 HO366 HO369 BK372 HK HB HI0;have BK359:=n0_;have HO363:=n1_;have HO366:=n2_;have HO369:=n3_;have BK372:=n4_;have HK:=n5_;have HB:=n6_;have HI0:=n7_;clear n0_ n1_ n2_ n3_ n4_ n5_ n6_ n7_ hb hk hi;have hcz15_0 : w14.cell? ⟨gb372,0,none⟩ = some (.bool t360):=(kC_ BK372.out 0).trans rfl;have hcz15_1 : w14.cell? ⟨gb372,1,none⟩ = some (.slice Ao11 t361.length co11):=(kC_ BK372.out 1).trans rfl;have hcz15_2 : w14.cell? ⟨gb372,2,none⟩ = some (.slice Ao12 t364.length co12):=(kC_ BK372.out 2).trans rfl;have hcz15_3 : w14.cell? ⟨gb372,3,none⟩ = some (.slice Ao13 t367.length co13):=(kC_ BK372.out 3).trans rfl;have hfz15_0:=kF_ BK372.out 0;have hfz15_1:=kF_ BK372.out 1;have hfz15_2:=kF_ BK372.out 2;have hfz15_3:=kF_ BK372.out 3;have hnb16:=NB359_0.out;have hnc16:=NB0_359.out;have hcz17_0 : w14.cell? ⟨gb359,0,none⟩ = some (.bool false):=(kC_ BK359.out 0).trans rfl;have hcz17_1 : w14.cell? ⟨gb359,1,none⟩ = some (.slice none 0 0):=(kC_ BK359.out 1).trans rfl;have hcz17_2 : w14.cell? ⟨gb359,2,none⟩ = some (.slice none 0 0):=(kC_ BK359.out 2).trans rfl;have hcz17_3 : w14.cell? ⟨gb359,3,none⟩ = some (.slice none 0 0):=(kC_ BK359.out 3).trans rfl;have hfz17_0:=kF_ BK359.out 0;have hfz17_1:=kF_ BK359.out 1;have hfz17_2:=kF_ BK359.out 2;have hfz17_3:=kF_ BK359.out 3))
  refine bodyPost_ret (results_cell_row rfl _ _ gb359 29 #[.bool (!t360),.slice Ao11 t361.length co11,.slice Ao12 t364.length co12,.slice Ao13 t367.length co13] (0,0) _ rfl (by (with_reducible repeat (first | refine kN_ ?_ _ | refine kD_ ?_ | refine kA_ ?_ _));refine kP_ (cs:=#[.bool (!t360),.slice Ao11 t361.length co11,.slice Ao12 t364.length co12,.slice none 0 0]) ?_ 3 _ rfl;(with_reducible repeat (first | refine kN_ ?_ _ | refine kD_ ?_ | refine kA_ ?_ _));refine kP_ (cs:=#[.bool (!t360),.slice Ao11 t361.length co11,.slice none 0 0,.slice none 0 0]) ?_ 2 _ rfl;(with_reducible repeat (first | refine kN_ ?_ _ | refine kD_ ?_ | refine kA_ ?_ _));refine kP_ (cs:=#[.bool (!t360),.slice none 0 0,.slice none 0 0,.slice none 0 0]) ?_ 1 _ rfl;(with_reducible repeat (first | refine kN_ ?_ _ | refine kD_ ?_ | refine kA_ ?_ _));refine kP_ (cs:=#[.bool false,.slice none 0 0,.slice none 0 0,.slice none 0 0]) ?_ 0 _ rfl;exact kW_ BK359) Try.underlying29 rfl (by kernel_rfl)) rfl ?_
  exact ⟨_,_,_,by first | rfl | (simp [errW_none,errW_some] <;> rfl) | (simp [*, errW_none,errW_some] <;> rfl),by (with_reducible repeat (first | apply rA_ | apply rN_ | apply rD_));exact Kd.R_mono (Kd.R_far (p:=⟨gb359,3,none⟩) (Kd.R_far (p:=⟨gb359,2,none⟩) (Kd.R_far (p:=⟨gb359,1,none⟩) (Kd.R_far (p:=⟨gb359,0,none⟩) (Kd.R_far (p:=⟨gb372,0,none⟩) (Kd.R_types (Kd.R_types HO363.out BK372.out (by decide)) BK359.out (by decide)) (fun _ hk=>hk.1.2) (.bool (!t360))) (fun _ hk=>hk.2) (.bool (!t360))) (fun _ hk=>hk.2) (.slice Ao11 t361.length co11)) (fun _ hk=>hk.2) (.slice Ao12 t364.length co12)) (fun _ hk=>hk.2) (.slice Ao13 t367.length co13)) (fun _ hk=>hk.1.1),by (with_reducible repeat (first | apply rA_ | apply rN_ | apply rD_));exact Kd.R_mono (Kd.R_far (p:=⟨gb359,3,none⟩) (Kd.R_far (p:=⟨gb359,2,none⟩) (Kd.R_far (p:=⟨gb359,1,none⟩) (Kd.R_far (p:=⟨gb359,0,none⟩) (Kd.R_far (p:=⟨gb372,0,none⟩) (Kd.R_types (Kd.R_types HO366.out BK372.out (by decide)) BK359.out (by decide)) (fun _ hk=>hk.1.2) (.bool (!t360))) (fun _ hk=>hk.2) (.bool (!t360))) (fun _ hk=>hk.2) (.slice Ao11 t361.length co11)) (fun _ hk=>hk.2) (.slice Ao12 t364.length co12)) (fun _ hk=>hk.2) (.slice Ao13 t367.length co13)) (fun _ hk=>hk.1.1),by (with_reducible repeat (first | apply rA_ | apply rN_ | apply rD_));exact Kd.R_mono (Kd.R_far (p:=⟨gb359,3,none⟩) (Kd.R_far (p:=⟨gb359,2,none⟩) (Kd.R_far (p:=⟨gb359,1,none⟩) (Kd.R_far (p:=⟨gb359,0,none⟩) (Kd.R_far (p:=⟨gb372,0,none⟩) (Kd.R_types (Kd.R_types HO369.out BK372.out (by decide)) BK359.out (by decide)) (fun _ hk=>hk.1.2) (.bool (!t360))) (fun _ hk=>hk.2) (.bool (!t360))) (fun _ hk=>hk.2) (.slice Ao11 t361.length co11)) (fun _ hk=>hk.2) (.slice Ao12 t364.length co12)) (fun _ hk=>hk.2) (.slice Ao13 t367.length co13)) (fun _ hk=>trivial),by repeat first | exact J155.z HI0 | apply J155.set_1 | apply J155.set_2 | refine J155.y ?_,by have e0_:=aM_ (J155.ge HI0.out);exact bZ_ HB,by exact eZ_ HK⟩
 ·rw [if_neg c4] at H
  have c4b0 : (t373 == 0) = false:=beq_eq_false_iff_ne.mpr c4
  have c4b1 : (t373 != 0) = true:=bne_iff_ne.mpr c4
  by_cases c18 : t373 = 1
  ·rw [if_pos c18] at H
   have c18b0 : (t373 == 1) = true:=beq_iff_eq.mpr c18
   have c18b1 : (t373 != 1) = false:=bne_eq_false_iff_eq.mpr c18
   clear c18
   by_cases c19 : 49 ≤ 281474976710656
   ·rw [if_pos c19] at H
    have c19b0:=eq_true c19
    have c19b1 : decide (49 ≤ 281474976710656) = true:=decide_eq_true c19
    clear c19
    obtain ⟨y376,hy376⟩ : ∃ y_ : List Int,y_ = (List.replicate 49 0):=⟨_,rfl⟩
    replace H : ((spec_l1Str.f s0_0 t374 t375 (([(⟨#[97]⟩ : ByteArray),(⟨#[122]⟩ : ByteArray),strOfNums y376] : List ByteArray))).bind fun bt382=>(if t361.length < 8796093022208 then (some (t360,(t361 ++ [bt382.1]),t364,t367,bt382.2.1,bt382.2.2)) else (none))) = some (r1,r2,r3,r4,r5,r6):=by first | (rw [hy376];with_reducible exact H) | (have H2_:=(Option.bind_some _ _).symm.trans H;rw [hy376];with_reducible exact H2_) | (have H2_:=(Option.bind_some _ _).symm.trans H;with_reducible exact H2_) | with_reducible exact H | (rw [hy376];exact H) | exact H
    have Ny376:=aM_ hy376
    clear hy376
    obtain ⟨y379,hy379⟩ : ∃ y_ : List ByteArray,y_ = (([(⟨#[97]⟩ : ByteArray),(⟨#[122]⟩ : ByteArray),strOfNums y376] : List ByteArray)):=⟨_,rfl⟩
    replace H : ((spec_l1Str.f s0_0 t374 t375 y379).bind fun bt382=>(if t361.length < 8796093022208 then (some (t360,(t361 ++ [bt382.1]),t364,t367,bt382.2.1,bt382.2.2)) else (none))) = some (r1,r2,r3,r4,r5,r6):=by first | (rw [hy379];with_reducible exact H) | (have H2_:=(Option.bind_some _ _).symm.trans H;rw [hy379];with_reducible exact H2_) | (have H2_:=(Option.bind_some _ _).symm.trans H;with_reducible exact H2_) | with_reducible exact H | (rw [hy379];exact H) | exact H
    have Ny379:=aM_ hy379
    clear hy379
    replace H:=oB_ H
    obtain ⟨⟨t382,t383,t384⟩,A200,H⟩:=H
    replace H : (if t361.length < 8796093022208 then (some (t360,(t361 ++ [t382]),t364,t367,t383,t384)) else (none)) = some (r1,r2,r3,r4,r5,r6):=H
    have A20:=aM_ A200
    clear A200
    by_cases c21 : t361.length < 8796093022208
    ·rw [if_pos c21] at H
     have LMc21:=aM_ c21
     clear c21
     obtain ⟨y385,hy385⟩ : ∃ y_ : List ByteArray,y_ = (t361 ++ [t382]):=⟨_,rfl⟩
     replace H : (some (t360,y385,t364,t367,t383,t384)) = some (r1,r2,r3,r4,r5,r6):=by first | (rw [hy385];with_reducible exact H) | (have H2_:=(Option.bind_some _ _).symm.trans H;rw [hy385];with_reducible exact H2_) | (have H2_:=(Option.bind_some _ _).symm.trans H;with_reducible exact H2_) | with_reducible exact H | (rw [hy385];exact H) | exact H
     have Ny385:=aM_ hy385
     clear hy385
     simp only [Option.some.injEq,Prod.mk.injEq] at H
     obtain ⟨rfl,rfl,rfl,rfl,rfl,rfl⟩:=H
     go_enter Try.func84,Try.ntmps84
     try go_wp2_with (first | ((with_reducible refine gate_dst (N:=2) rfl ?_);refine box_event ?hg (N:=2) ?hd (cs:=#[.bool false,.slice none 0 0,.slice none 0 0,.slice none 0 0]) (t:=29) ?hr ?_;(case hd=>rfl);(case hg=>rfl);(case hr=>first | (go_simp;done) | (go_simp;rfl));intro gb359 hg w22 hbox hb;have n0_:=aM_ (J155.below (by repeat first | exact J155.z HI0 | apply J155.set_1 | apply J155.set_2 | refine J155.y ?_) hb);have n1_:=aM_ (KeepBut.trans (by exact eZ_ HK) (KeepBut.of_below hb g none) (.inl rfl));have n2_:=aM_ (bT_ (by have e0_:=aM_ (J155.ge HI0.out);exact bZ_ HB) hb);have n3_:=aM_ (hbox);have n4_:=aM_ ((by rw [hg];exact (keep_size (w:=w) (g:=g) (row:=none) (by exact eZ_ HK)) : w.heap.size ≤ gb359));have n5_:=aM_ ((Nat.le_trans HW0.out (by rw [hg];exact (keep_size (w:=w) (g:=g) (row:=none) (by exact eZ_ HK)) : w.heap.size ≤ gb359) : w0.heap.size ≤ gb359));have n6_:=aM_ ((by rw [hg];exact Nat.ne_of_lt (J155.lt (show J155 w0 _ g s0_0 s0_1 s0_2 from by repeat first | exact J155.z HI0 | apply J155.set_1 | apply J155.set_2 | refine J155.y ?_)) : g ≠ gb359));have n7_:=aM_ ((by rw [hg];exact Nat.ne_of_gt (J155.lt (show J155 w0 _ g s0_0 s0_1 s0_2 from by repeat first | exact J155.z HI0 | apply J155.set_1 | apply J155.set_2 | refine J155.y ?_)) : gb359 ≠ g));clear HI0 HK HB;have HI0:=n0_;have HK:=n1_;have HB:=n2_;have BK359:=n3_;have GW359:=n4_;have GE359:=n5_;have NB0_359:=n6_;have NB359_0:=n7_;clear n0_ n1_ n2_ n3_ n4_ n5_ n6_ n7_ hb hbox hg) | ((with_reducible refine gate_callee (f:=86) rfl ?_);refine goesL_ (some 5) rfl rfl Try.func86 (by kernel_rfl) rfl #[.pointer (some ⟨g,0,none⟩)] rfl (by (try simp only [mA_,mC_,mN_]);first | done | rfl | (simp only [lD_,lT_];rfl)) ?_;(with_reducible refine (spec_l14Draw.calls k g s0_0 s0_1 s0_2 t360 t361 t364 t367 t370 t371 w0 _ ?side1 ?side2 A2.out).mono ?_);(case side1=>repeat first | exact J155.z HI0 | apply J155.set_1 | apply J155.set_2 | refine J155.y ?_);(case side2=>have e0_:=aM_ (J155.ge HI0.out);exact bZ_ HB);rintro e w23 ⟨v362,v365,v368,rfl,ho0,ho1,ho2,hi,hb,hk⟩;refine ⟨_,rfl,?_⟩;have n0_:=aM_ (KeepBut.blk hk (g':=gb359) (o:=.cells #[.bool false,.slice none 0 0,.slice none 0 0,.slice none 0 0] 29 (0,0)) (by exact kZ_ BK359) NB359_0.out (by simp));have n1_:=aM_ (Kd.R_lower ho0 (keep_size (w:=w) (g:=g) (row:=none) (by exact eZ_ HK)));have n2_:=aM_ (Kd.R_lower ho1 (keep_size (w:=w) (g:=g) (row:=none) (by exact eZ_ HK)));have n3_:=aM_ (Kd.R_lower ho2 (keep_size (w:=w) (g:=g) (row:=none) (by exact eZ_ HK)));have n4_:=aM_ (KeepBut.trans (by exact eZ_ HK) hk (.inl rfl));have n5_:=aM_ (hb);have n6_:=aM_ (hi);clear BK359 HK HB HI0;have BK359:=n0_;have HO363:=n1_;have HO366:=n2_;have HO369:=n3_;have HK:=n4_;have HB:=n5_;have HI0:=n6_;clear n0_ n1_ n2_ n3_ n4_ n5_ n6_ hb hk hi ho0 ho1 ho2) | ((with_reducible refine gate_dst (N:=3) rfl ?_);refine box_event ?hg (N:=3) ?hd (cs:=#[.bool false,.slice none 0 0,.slice none 0 0,.slice none 0 0]) (t:=29) ?hr ?_;(case hd=>rfl);(case hg=>rfl);(case hr=>first | (go_simp;done) | (go_simp;rfl));intro gb372 hg w24 hbox hb;have n0_:=aM_ (Kd.R_below (by exact rZ_ HO363) hb);have n1_:=aM_ (Kd.R_below (by exact rZ_ HO366) hb);have n2_:=aM_ (Kd.R_below (by exact rZ_ HO369) hb);have n3_:=aM_ (J155.below (by repeat first | exact J155.z HI0 | apply J155.set_1 | apply J155.set_2 | refine J155.y ?_) hb);have n4_:=aM_ (blk_below (g:=gb359) (o:=.cells #[.bool false,.slice none 0 0,.slice none 0 0,.slice none 0 0] 29 (0,0)) (by exact kZ_ BK359) hb);have n5_:=aM_ (KeepBut.trans (by exact eZ_ HK) (KeepBut.of_below hb g none) (.inl rfl));have n6_:=aM_ (bT_ (by have e0_:=aM_ (J155.ge HI0.out);exact bZ_ HB) hb);have n7_:=aM_ (hbox);have n8_:=aM_ ((by rw [hg];exact (keep_size (w:=w) (g:=g) (row:=none) (by exact eZ_ HK)) : w.heap.size ≤ gb372));have n9_:=aM_ ((Nat.le_trans HW0.out (by rw [hg];exact (keep_size (w:=w) (g:=g) (row:=none) (by exact eZ_ HK)) : w.heap.size ≤ gb372) : w0.heap.size ≤ gb372));have n10_:=aM_ ((by rw [hg];exact Nat.ne_of_lt (blk_lt (g:=gb359) (o:=.cells #[.bool false,.slice none 0 0,.slice none 0 0,.slice none 0 0] 29 (0,0)) (by exact kZ_ BK359)) : gb359 ≠ gb372));have n11_:=aM_ ((by rw [hg];exact Nat.ne_of_gt (blk_lt (g:=gb359) (o:=.cells #[.bool false,.slice none 0 0,.slice none 0 0,.slice none 0 0] 29 (0,0)) (by exact kZ_ BK359)) : gb372 ≠ gb359));have n12_:=aM_ ((by rw [hg];exact Nat.ne_of_lt (J155.lt (show J155 w0 _ g s0_0 t370 t371 from by repeat first | exact J155.z HI0 | apply J155.set_1 | apply J155.set_2 | refine J155.y ?_)) : g ≠ gb372));have n13_:=aM_ ((by rw [hg];exact Nat.ne_of_gt (J155.lt (show J155 w0 _ g s0_0 t370 t371 from by repeat first | exact J155.z HI0 | apply J155.set_1 | apply J155.set_2 | refine J155.y ?_)) : gb372 ≠ g));clear HO363 HO366 HO369 HI0 BK359 HK HB;have HO363:=n0_;have HO366:=n1_;have HO369:=n2_;have HI0:=n3_;have BK359:=n4_;have HK:=n5_;have HB:=n6_;have BK372:=n7_;have GW372:=n8_;have GE372:=n9_;have NB359_372:=n10_;have NB372_359:=n11_;have NB0_372:=n12_;have NB372_0:=n13_;clear n0_ n1_ n2_ n3_ n4_ n5_ n6_ n7_ n8_ n9_ n10_ n11_ n12_ n13_ hb hbox hg;have hnb25:=NB372_359.out;have hnc25:=NB359_372.out;have hnb26:=NB372_0.out;have hnc26:=NB0_372.out;have hcz27_0 : w24.cell? ⟨gb372,0,none⟩ = some (.bool false):=(kC_ BK372.out 0).trans rfl;have hcz27_1 : w24.cell? ⟨gb372,1,none⟩ = some (.slice none 0 0):=(kC_ BK372.out 1).trans rfl;have hcz27_2 : w24.cell? ⟨gb372,2,none⟩ = some (.slice none 0 0):=(kC_ BK372.out 2).trans rfl;have hcz27_3 : w24.cell? ⟨gb372,3,none⟩ = some (.slice none 0 0):=(kC_ BK372.out 3).trans rfl;have hfz27_0:=kF_ BK372.out 0;have hfz27_1:=kF_ BK372.out 1;have hfz27_2:=kF_ BK372.out 2;have hfz27_3:=kF_ BK372.out 3;obtain ⟨Ao28,co28,eo28⟩:=Kd.R_slice HO363.out;subst eo28;obtain ⟨Ao29,co29,eo29⟩:=Kd.R_slice HO366.out;subst eo29;obtain ⟨Ao30,co30,eo30⟩:=Kd.R_slice HO369.out;subst eo30) | ((with_reducible refine gate_callee (f:=125) rfl ?_);refine goesL_ (some 7) rfl rfl Try.func125 (by kernel_rfl) rfl #[.pointer (some ⟨g,0,none⟩),.int .i64 12] rfl (by (try simp only [mA_,mC_,mN_]);first | done | rfl | (simp only [lD_,lT_];rfl)) ?_;(with_reducible refine (spec_l1Below.calls g s0_0 t370 t371 12 t373 t374 t375 w0 _ ?side1 ?side2 A3.out).mono ?_);(case side1=>repeat first | exact J155.z HI0 | apply J155.set_1 | apply J155.set_2 | refine J155.y ?_);(case side2=>have e0_:=aM_ (J155.ge HI0.out);exact bZ_ HB);rintro e w31 ⟨rfl,hi,hb,hk⟩;refine ⟨_,rfl,?_⟩;have n0_:=aM_ (KeepBut.blk hk (g':=gb359) (o:=.cells #[.bool false,.slice none 0 0,.slice none 0 0,.slice none 0 0] 29 (0,0)) (by exact kW_ BK359) NB359_0.out (by simp));have n1_:=aM_ (Kd.R_mono (Kd.R_keep (J155.apart (show J155 w0 _ g s0_0 t370 t371 from by repeat first | exact J155.z HI0 | apply J155.set_1 | apply J155.set_2 | refine J155.y ?_) (by (with_reducible repeat (first | apply rA_ | apply rN_ | apply rD_));exact (Kd.R_mono (Kd.R_far (p:=⟨gb372,3,none⟩) (Kd.R_far (p:=⟨gb372,2,none⟩) (Kd.R_far (p:=⟨gb372,1,none⟩) (Kd.R_far (p:=⟨gb372,0,none⟩) (Kd.R_types HO363.out BK372.out (by decide)) (fun _ hk=>hk.2) (.bool t360)) (fun _ hk=>hk.2) (.slice Ao28 t361.length co28)) (fun _ hk=>hk.2) (.slice Ao29 t364.length co29)) (fun _ hk=>hk.2) (.slice Ao30 t367.length co30)) (fun _ h_=>h_.1))) (by decide)) hk (fun _ h=>h.2)) (fun _ h=>h.1));have n2_:=aM_ (Kd.R_mono (Kd.R_keep (J155.apart (show J155 w0 _ g s0_0 t370 t371 from by repeat first | exact J155.z HI0 | apply J155.set_1 | apply J155.set_2 | refine J155.y ?_) (by (with_reducible repeat (first | apply rA_ | apply rN_ | apply rD_));exact (Kd.R_mono (Kd.R_far (p:=⟨gb372,3,none⟩) (Kd.R_far (p:=⟨gb372,2,none⟩) (Kd.R_far (p:=⟨gb372,1,none⟩) (Kd.R_far (p:=⟨gb372,0,none⟩) (Kd.R_types HO366.out BK372.out (by decide)) (fun _ hk=>hk.2) (.bool t360)) (fun _ hk=>hk.2) (.slice Ao28 t361.length co28)) (fun _ hk=>hk.2) (.slice Ao29 t364.length co29)) (fun _ hk=>hk.2) (.slice Ao30 t367.length co30)) (fun _ h_=>h_.1))) (by decide)) hk (fun _ h=>h.2)) (fun _ h=>h.1));have n3_:=aM_ (Kd.R_mono (Kd.R_keep (J155.apart (show J155 w0 _ g s0_0 t370 t371 from by repeat first | exact J155.z HI0 | apply J155.set_1 | apply J155.set_2 | refine J155.y ?_) (by (with_reducible repeat (first | apply rA_ | apply rN_ | apply rD_));exact (Kd.R_mono (Kd.R_far (p:=⟨gb372,3,none⟩) (Kd.R_far (p:=⟨gb372,2,none⟩) (Kd.R_far (p:=⟨gb372,1,none⟩) (Kd.R_far (p:=⟨gb372,0,none⟩) (Kd.R_types HO369.out BK372.out (by decide)) (fun _ hk=>hk.2) (.bool t360)) (fun _ hk=>hk.2) (.slice Ao28 t361.length co28)) (fun _ hk=>hk.2) (.slice Ao29 t364.length co29)) (fun _ hk=>hk.2) (.slice Ao30 t367.length co30)) (fun _ h_=>h_.1))) (by decide)) hk (fun _ h=>h.2)) (fun _ h=>h.1));have n4_:=aM_ (KeepBut.blk hk (g':=gb372) (o:=.cells #[.bool t360,.slice Ao28 t361.length co28,.slice Ao29 t364.length co29,.slice Ao30 t367.length co30] 29 (0,0)) (by (with_reducible repeat (first | refine kN_ ?_ _ | refine kD_ ?_ | refine kA_ ?_ _));refine kP_ (cs:=#[.bool t360,.slice Ao28 t361.length co28,.slice Ao29 t364.length co29,.slice none 0 0]) ?_ 3 _ rfl;(with_reducible repeat (first | refine kN_ ?_ _ | refine kD_ ?_ | refine kA_ ?_ _));refine kP_ (cs:=#[.bool t360,.slice Ao28 t361.length co28,.slice none 0 0,.slice none 0 0]) ?_ 2 _ rfl;(with_reducible repeat (first | refine kN_ ?_ _ | refine kD_ ?_ | refine kA_ ?_ _));refine kP_ (cs:=#[.bool t360,.slice none 0 0,.slice none 0 0,.slice none 0 0]) ?_ 1 _ rfl;(with_reducible repeat (first | refine kN_ ?_ _ | refine kD_ ?_ | refine kA_ ?_ _));refine kP_ (cs:=#[.bool false,.slice none 0 0,.slice none 0 0,.slice none 0 0]) ?_ 0 _ rfl;exact kZ_ BK372) NB372_0.out (by simp));have n5_:=aM_ (KeepBut.trans (by exact eZ_ HK) hk (.inl rfl));have n6_:=aM_ (hb);have n7_:=aM_ (hi);clear BK359 HO363 HO366 HO369 BK372 HK HB HI0;have BK359:=n0_;have HO363:=n1_;have HO366:=n2_;have HO369:=n3_;have BK372:=n4_;have HK:=n5_;have HB:=n6_;have HI0:=n7_;clear n0_ n1_ n2_ n3_ n4_ n5_ n6_ n7_ hb hk hi))
     have n0_:=aM_ (rD_ HO363.out)
     have n1_:=aM_ (rD_ HO366.out)
     have n2_:=aM_ (rD_ HO369.out)
     have n3_:=aM_ (kD_ BK359.out)
     have n4_:=aM_ (kD_ BK372.out)
     have n5_:=aM_ (J155.drew HI0.out)
     have n6_:=aM_ (eD_ HK.out)
     have n7_:=aM_ (bD_ HB.out)
     clear HO363 HO366 HO369 BK359 BK372 HI0 HK HB
     have HO363:=n0_
     have HO366:=n1_
     have HO369:=n2_
     have BK359:=n3_
     have BK372:=n4_
     have HI0:=n5_
     have HK:=n6_
     have HB:=n7_
     clear n0_ n1_ n2_ n3_ n4_ n5_ n6_ n7_
     refine start_ (n:=11) (S:=fun w'=>w'.cell? ⟨gb372,0,none⟩ = some (.bool t360) ∧ w'.cell? ⟨gb372,1,none⟩ = some (.slice Ao28 t361.length co28) ∧ w'.cell? ⟨gb372,2,none⟩ = some (.slice Ao29 t364.length co29) ∧ w'.cell? ⟨gb372,3,none⟩ = some (.slice Ao30 t367.length co30)) (ds:=[10]) (tb_ 0 11) (by kernel_rfl) rfl rfl ⟨(kC_ BK372.out 0).trans rfl,(kC_ BK372.out 1).trans rfl,(kC_ BK372.out 2).trans rfl,(kC_ BK372.out 3).trans rfl⟩ (fun hHeld=>?_);refine with_tabW spec_l14Any.tab6 spec_l14Any.bits6 (fun HT_ HW_=>?_)
     generalize w31.drew = w32 at HO363 HO366 HO369 BK359 BK372 HI0 HK HB hHeld ⊢
     refine pure_ (i:=0) (N:=some 16) (v:=?_) (a':=?_) (tb_ 1 10) rfl rfl (any_of HT_.out (by kernel_rfl)) (fun _ _ _ h=>h) (Or.inl ⟨by rfl,?_⟩) ?_ ?_
     rotate_left
     ·intro w'
      go_simp
      with_reducible rfl
     rotate_left
     ·simp only [Act.put,sI_,sZ_,sS_,i64_w,i32_w]
      rfl
     refine pure_ (i:=2) (N:=some 18) (v:=?_) (a':=?_) #[true,false,true,false,false,false,false,false,false,false,false] rfl rfl (any_of HT_.out (by kernel_rfl)) (fun _ _ _ h=>h) (Or.inl ⟨by rfl,?_⟩) ?_ ?_
     rotate_left
     ·intro w'
      go_simp
      with_reducible rfl
     rotate_left
     ·simp only [Act.put,sI_,sZ_,sS_,i64_w,i32_w]
      rfl
     refine take_ (i:=1) (N:=some 17) (v:=?_) (a':=?_) (tb_ 3 8) rfl rfl (take_ofW HT_.out HW_.out (by kernel_rfl)) (fun _ _ _ h=>h) (Or.inl ⟨by rfl,?_⟩) hHeld ?_ ?_
     rotate_left
     ·rintro w' ⟨s0,s1,s2,s3⟩
      go_simp
      with_reducible rfl
     rotate_left
     ·simp only [Act.put,sI_,sZ_,sS_,i64_w,i32_w]
      rfl
     refine one_ (i:=3) (N:=some 19) (tb_ 4 7) rfl rfl (one_of HT_.out (by kernel_rfl)) (by decide) (fun K hK=>?_)
     refine Kd.R_make_step (Kd.int .u8) _ 5 (by rfl) (N:=19) rfl 27 _ _ rfl 49 rfl rfl Try.underlying27 (.int .u8 0) 1 info5 rfl (by decide) (by omega) 0 (ok:=fun _=>True) (okp:=fun _=>True) rfl (fun _ hk=>hk) trivial (by omega) (by omega) (Below.refl _ _) (Nat.le_refl _) ?_
     intro v377 w33 ho34 hb hg_ hnew_
     clear hg_ hnew_
     (first | rw [← Ny376.out] at ho34 | (simp only [Int.reduceToNat] at ho34;rw [← Ny376.out] at ho34))
     have n0_:=aM_ (Kd.R_below (by exact rZ_ HO363) hb)
     have n1_:=aM_ (Kd.R_below (by exact rZ_ HO366) hb)
     have n2_:=aM_ (Kd.R_below (by exact rZ_ HO369) hb)
     have n3_:=aM_ (Kd.R_lower ho34 (keep_size (w:=w) (g:=g) (row:=none) (by exact eZ_ HK)))
     have n4_:=aM_ (J155.below (by repeat first | exact J155.z HI0 | apply J155.set_1 | apply J155.set_2 | refine J155.y ?_) hb)
     have n5_:=aM_ (blk_below (g:=gb359) (o:=.cells #[.bool false,.slice none 0 0,.slice none 0 0,.slice none 0 0] 29 (0,0)) (by exact kZ_ BK359) hb)
     have n6_:=aM_ (blk_below (g:=gb372) (o:=.cells #[.bool t360,.slice Ao28 t361.length co28,.slice Ao29 t364.length co29,.slice Ao30 t367.length co30] 29 (0,0)) (by exact kZ_ BK372) hb)
     have n7_:=aM_ (KeepBut.trans (by exact eZ_ HK) (KeepBut.of_below hb g none) (.inl rfl))
     have n8_:=aM_ (bT_ (by have e0_:=aM_ (J155.ge HI0.out);exact bZ_ HB) hb)
     clear HO363 HO366 HO369 HI0 BK359 BK372 HK HB
     have HO363:=n0_
     have HO366:=n1_
     have HO369:=n2_
     have HO378:=n3_
     have HI0:=n4_
     have BK359:=n5_
     have BK372:=n6_
     have HK:=n7_
     have HB:=n8_
     clear n0_ n1_ n2_ n3_ n4_ n5_ n6_ n7_ n8_ hb ho34
     refine hK.out _ _ ⟨(kC_ BK372.out 0).trans rfl,(kC_ BK372.out 1).trans rfl,(kC_ BK372.out 2).trans rfl,(kC_ BK372.out 3).trans rfl⟩ (fun hHeld=>?_)
     clear hK K
     refine norm_ (a':=?_) ?_ ?_
     rotate_left
     ·show Act.put _ (some 19) _ = _
      simp only [Act.put,sI_,sZ_,sS_,i64_w,i32_w]
      rfl
     refine one_ (i:=4) (N:=some 20) (tb_ 5 6) rfl rfl (one_of HT_.out (by kernel_rfl)) (by decide) (fun K hK=>?_)
     have hcv35:=own_string (P:=Try.prog) Try.underlying27 Try.underlying5 Try.underlying9 (Kd.own_of_R HO378.out)
     refine value_ (w1:=?_) (v:=?_) (by rfl) rfl ?_ ?_
     rotate_left 2
     ·go_simp
      constructor
      ·rfl
      ·rfl
     clear hcv35
     refine hK.out _ _ ⟨(kC_ BK372.out 0).trans rfl,(kC_ BK372.out 1).trans rfl,(kC_ BK372.out 2).trans rfl,(kC_ BK372.out 3).trans rfl⟩ (fun hHeld=>?_)
     clear hK K
     refine norm_ (a':=?_) ?_ ?_
     rotate_left
     ·show Act.put _ (some 20) _ = _
      simp only [Act.put,sI_,sZ_,sS_,i64_w,i32_w]
      rfl
     refine one_ (i:=5) (N:=some 21) (tb_ 6 5) rfl rfl (one_of HT_.out (by kernel_rfl)) (by decide) (fun K hK=>?_)
     refine Kd.R_lit_step Kd.string _ 9 ?hg (N:=21) ?hd (xs:=([(⟨#[97]⟩ : ByteArray),(⟨#[122]⟩ : ByteArray),strOfNums y376] : List ByteArray)) (inner:=[.string (⟨#[97]⟩ : ByteArray),.string (⟨#[122]⟩ : ByteArray),.string (strOfNums y376)]) (ok:=fun _=>True) (okp:=fun _=>True) ?hr ?hp (fun _ hk=>hk) trivial (Below.refl _ _) (Nat.le_refl _) (by simp) ?_;(case hd=>rfl);(case hg=>rfl);(case hr=>first | (go_simp;done) | (go_simp;rfl));(case hp=>exact (Reps.one (show Kd.M Kd.string _ _ _ (⟨#[97]⟩ : ByteArray) [.string (⟨#[97]⟩ : ByteArray)] from rfl) (Reps.one (show Kd.M Kd.string _ _ _ (⟨#[122]⟩ : ByteArray) [.string (⟨#[122]⟩ : ByteArray)] from rfl) (Reps.one (show Kd.M Kd.string _ _ _ (strOfNums y376) [.string (strOfNums y376)] from rfl) (Reps.none _ _)))))
     intro v380 w36 ho37 hb hg_ hnew_
     clear hg_ hnew_
     (first | rw [← Ny379.out] at ho37 | (simp only [Int.reduceToNat] at ho37;rw [← Ny379.out] at ho37))
     have n0_:=aM_ (Kd.R_elder' (by exact rZ_ HO363) (Kd.R_base ho37) hb)
     have n1_:=aM_ (Kd.R_elder' (by exact rZ_ HO366) (Kd.R_base ho37) hb)
     have n2_:=aM_ (Kd.R_below (by exact rZ_ HO369) hb)
     have n3_:=aM_ (Kd.R_below (by exact rZ_ HO378) hb)
     have n4_:=aM_ (Kd.R_lower (Kd.R_new' (Kd.R_new' ho37 (Kd.R_lt (by exact rZ_ HO363))) (Kd.R_lt (by exact rZ_ HO366))) (keep_size (w:=w) (g:=g) (row:=none) (by exact eZ_ HK)))
     have n5_:=aM_ (J155.below (by repeat first | exact J155.z HI0 | apply J155.set_1 | apply J155.set_2 | refine J155.y ?_) hb)
     have n6_:=aM_ (blk_below (g:=gb359) (o:=.cells #[.bool false,.slice none 0 0,.slice none 0 0,.slice none 0 0] 29 (0,0)) (by exact kZ_ BK359) hb)
     have n7_:=aM_ (blk_below (g:=gb372) (o:=.cells #[.bool t360,.slice Ao28 t361.length co28,.slice Ao29 t364.length co29,.slice Ao30 t367.length co30] 29 (0,0)) (by exact kZ_ BK372) hb)
     have n8_:=aM_ (KeepBut.trans (by exact eZ_ HK) (KeepBut.of_below hb g none) (.inl rfl))
     have n9_:=aM_ (bT_ (by have e0_:=aM_ (J155.ge HI0.out);exact bZ_ HB) hb)
     clear HO363 HO366 HO369 HO378 HI0 BK359 BK372 HK HB
     have HO363:=n0_
     have HO366:=n1_
     have HO369:=n2_
     have HO378:=n3_
     have HO381:=n4_
     have HI0:=n5_
     have BK359:=n6_
     have BK372:=n7_
     have HK:=n8_
     have HB:=n9_
     clear n0_ n1_ n2_ n3_ n4_ n5_ n6_ n7_ n8_ n9_ hb ho37
     obtain ⟨Ao38,co38,eo38⟩:=Kd.R_slice HO381.out
     (first | subst eo38 | (injection eo38 with f1_ f2_ f3_;have f4_:=f1_.symm;have f5_:=f3_.symm;clear f1_ f2_ f3_;subst f4_;subst f5_))
     refine hK.out _ _ ⟨(kC_ BK372.out 0).trans rfl,(kC_ BK372.out 1).trans rfl,(kC_ BK372.out 2).trans rfl,(kC_ BK372.out 3).trans rfl⟩ (fun hHeld=>?_)
     clear hK K
     refine norm_ (a':=?_) ?_ ?_
     rotate_left
     ·show Act.put _ (some 21) _ = _
      simp only [Act.put,sI_,sZ_,sS_,i64_w,i32_w]
      rfl
     refine one_ (i:=6) (N:=some 22) (tb_ 7 4) rfl rfl (one_of HT_.out (by kernel_rfl)) (by decide) (fun K hK=>?_)
     refine goes_ Try.func124 (by kernel_rfl) rfl #[.pointer (some ⟨g,0,none⟩),.slice Ao38 y379.length co38] (by rfl) rfl rfl (by (try simp only [mA_,mC_,mN_]);first | done | rfl | (simp only [lD_,lT_];rfl)) ?_
     with_reducible refine (spec_l1Str.calls g s0_0 t374 t375 _ _ y379 t382 t383 t384 w0 _ ?side1 ?side2 ?side3 ?side4 ?side5 A20.out).mono ?_
     (case side1=>repeat first | exact J155.z HI0 | apply J155.set_1 | apply J155.set_2 | refine J155.y ?_)
     (case side2=>have e0_:=aM_ (J155.ge HI0.out);exact bZ_ HB)
     (case side3=>repeat (first | exact (Kd.R_reads' HO381.out).2.2 | (with_reducible refine cA_ ?_ _) | (with_reducible refine cN_ ?_ _) | (with_reducible refine cD_ ?_)))
     (case side4=>exact (Kd.R_reads' HO381.out).2.1)
     (case side5=>exact far_slice (J155.own_ne HI0.out HO381.out (by decide)))
     rintro e w39 ⟨rfl,hi,hb,hk⟩
     refine ⟨_,rfl,?_⟩
     have n0_:=aM_ (KeepBut.blk hk (g':=gb359) (o:=.cells #[.bool false,.slice none 0 0,.slice none 0 0,.slice none 0 0] 29 (0,0)) (by exact kZ_ BK359) NB359_0.out (by simp))
     have n1_:=aM_ (Kd.R_mono (Kd.R_keep (J155.apart (show J155 w0 _ g s0_0 t374 t375 from by repeat first | exact J155.z HI0 | apply J155.set_1 | apply J155.set_2 | refine J155.y ?_) (by exact rZ_ HO363) (by decide)) hk (fun _ h=>h.2)) (fun _ h=>h.1))
     have n2_:=aM_ (Kd.R_mono (Kd.R_keep (J155.apart (show J155 w0 _ g s0_0 t374 t375 from by repeat first | exact J155.z HI0 | apply J155.set_1 | apply J155.set_2 | refine J155.y ?_) (by exact rZ_ HO366) (by decide)) hk (fun _ h=>h.2)) (fun _ h=>h.1))
     have n3_:=aM_ (Kd.R_mono (Kd.R_keep (J155.apart (show J155 w0 _ g s0_0 t374 t375 from by repeat first | exact J155.z HI0 | apply J155.set_1 | apply J155.set_2 | refine J155.y ?_) (by exact rZ_ HO369) (by decide)) hk (fun _ h=>h.2)) (fun _ h=>h.1))
     have n4_:=aM_ (KeepBut.blk hk (g':=gb372) (o:=.cells #[.bool t360,.slice Ao28 t361.length co28,.slice Ao29 t364.length co29,.slice Ao30 t367.length co30] 29 (0,0)) (by exact kZ_ BK372) NB372_0.out (by simp))
     have n5_:=aM_ (Kd.R_mono (Kd.R_keep (J155.apart (show J155 w0 _ g s0_0 t374 t375 from by repeat first | exact J155.z HI0 | apply J155.set_1 | apply J155.set_2 | refine J155.y ?_) (by exact rZ_ HO378) (by decide)) hk (fun _ h=>h.2)) (fun _ h=>h.1))
     have n6_:=aM_ (Kd.R_mono (Kd.R_keep (J155.apart (show J155 w0 _ g s0_0 t374 t375 from by repeat first | exact J155.z HI0 | apply J155.set_1 | apply J155.set_2 | refine J155.y ?_) (by exact rZ_ HO381) (by decide)) hk (fun _ h=>h.2)) (fun _ h=>h.1))
     have n7_:=aM_ (KeepBut.trans (by exact eZ_ HK) hk (.inl rfl))
     have n8_:=aM_ (hb)
     have n9_:=aM_ (hi)
     clear BK359 HO363 HO366 HO369 BK372 HO378 HO381 HK HB HI0
     have BK359:=n0_
     have HO363:=n1_
     have HO366:=n2_
     have HO369:=n3_
     have BK372:=n4_
     have HO378:=n5_
     have HO381:=n6_
     have HK:=n7_
     have HB:=n8_
     have HI0:=n9_
     clear n0_ n1_ n2_ n3_ n4_ n5_ n6_ n7_ n8_ n9_ hb
     skip
     clear hk hi
     refine hK.out _ _ ⟨(kC_ BK372.out 0).trans rfl,(kC_ BK372.out 1).trans rfl,(kC_ BK372.out 2).trans rfl,(kC_ BK372.out 3).trans rfl⟩ (fun hHeld=>?_)
     clear hK K
     refine norm_ (a':=?_) ?_ ?_
     rotate_left
     ·show Act.put _ (some 22) _ = _
      simp only [Act.put,sI_,sZ_,sS_,i64_w,i32_w]
      rfl
     refine one_ (i:=7) (N:=some 23) (tb_ 8 3) rfl rfl (one_of HT_.out (by kernel_rfl)) (by decide) (fun K hK=>?_)
     refine value_ (w1:=?_) (v:=?_) (by rfl) rfl ?_ ?_
     rotate_left 2
     ·go_simp
      constructor
      ·rfl
      ·rfl
     refine hK.out _ _ ⟨(kC_ (kA_ BK372.out _) 0).trans rfl,(kC_ (kA_ BK372.out _) 1).trans rfl,(kC_ (kA_ BK372.out _) 2).trans rfl,(kC_ (kA_ BK372.out _) 3).trans rfl⟩ (fun hHeld=>?_)
     clear hK K
     refine norm_ (a':=?_) ?_ ?_
     rotate_left
     ·show Act.put _ (some 23) _ = _
      simp only [Act.put,sI_,sZ_,sS_,i64_w,i32_w]
      rfl
     refine one_ (i:=8) (N:=some 24) (tb_ 9 2) rfl rfl (one_of HT_.out (by kernel_rfl)) (by decide) (fun K hK=>?_)
     refine Kd.R_append_step Kd.string w.heap.size (by rfl) (.tmp 17) (.tmp 23) 22 9 (.string ⟨#[]⟩) 16 rfl Try.underlying22 info9 rfl (by decide) (by omega) (.slice Ao28 t361.length co28) t361 t382 [.string t382] (fun k_=>some k_ ≠ (.slice Ao29 t364.length co29 : Value).ownBlock ∧ some k_ ≠ (.slice Ao38 y379.length co38 : Value).ownBlock) (fun _=>False) rfl rfl ?aP (fun _ hk=>hk.elim) ?aF ?aO (Below.refl _ _) ?aS ?aL ?_
     (case aP=>exact rfl)
     (case aF=>exact (fun k_ hk=>⟨Kd.fresh' (Kd.R_lt (by exact rZ_ HO366)) k_ hk,Kd.fresh' (Kd.R_lt (by exact rZ_ HO381)) k_ hk⟩))
     (case aO=>exact (by exact rZ_ HO363))
     (case aS=>exact (keep_size (w:=w) (g:=g) (row:=none) (by exact eZ_ HK)))
     (case aL=>have:=LMc21.out;omega)
     intro v386 w40 ho hb hg hat
     rw [← Ny385.out] at ho
     have n0_:=aM_ (J155.grown (by repeat first | exact J155.z HI0 | apply J155.set_1 | apply J155.set_2 | refine J155.y ?_) hg (J155.own_ne HI0.out HO363.out (by decide)))
     have n1_:=aM_ (blk_grown (g:=gb359) (o:=.cells #[.bool false,.slice none 0 0,.slice none 0 0,.slice none 0 0] 29 (0,0)) (by exact kZ_ BK359) hg (Kd.R_ne HO363.out BK359.out (by decide)))
     have n2_:=aM_ (Kd.R_after (ok:=(fun k_=>some k_ ≠ (.slice Ao38 y379.length co38 : Value).ownBlock)) (by (with_reducible repeat (first | apply rA_ | apply rN_ | apply rD_));exact Kd.R_mono HO366.out (fun _ hk=>⟨hk.2,hk.1⟩)) hg hat)
     have n3_:=aM_ (Kd.R_over' (by exact rZ_ HO369) (Kd.R_typed (by exact rZ_ HO363)) (by decide) hg)
     have n4_:=aM_ (blk_grown (g:=gb372) (o:=.cells #[.bool t360,.slice Ao28 t361.length co28,.slice Ao29 t364.length co29,.slice Ao30 t367.length co30] 29 (0,0)) (by exact kZ_ BK372) hg (Kd.R_ne HO363.out BK372.out (by decide)))
     have n5_:=aM_ (Kd.R_over' (by exact rZ_ HO378) (Kd.R_typed (by exact rZ_ HO363)) (by decide) hg)
     have n6_:=aM_ (Kd.R_after (ok:=(fun k_=>some k_ ≠ (.slice Ao29 t364.length co29 : Value).ownBlock)) (by (with_reducible repeat (first | apply rA_ | apply rN_ | apply rD_));exact Kd.R_mono HO381.out (fun _ hk=>⟨hk.2,hk.1.2⟩)) hg hat)
     have n7_:=aM_ (below_weaken (by have e0_:=aM_ (J155.ge HI0.out);exact bZ_ HB) HL.out hb)
     have n8_:=aM_ (KeepBut.trans (by exact eZ_ HK) (KeepBut.of_grown hg g) (Kd.R_base2 HO363.out))
     have n9_:=aM_ (ho)
     clear HI0 BK359 HO366 HO369 BK372 HO378 HO381 HB HK HO363
     have HI0:=n0_
     have BK359:=n1_
     have HO366:=n2_
     have HO369:=n3_
     have BK372:=n4_
     have HO378:=n5_
     have HO381:=n6_
     have HB:=n7_
     have HK:=n8_
     have HO387:=n9_
     clear n0_ n1_ n2_ n3_ n4_ n5_ n6_ n7_ n8_ n9_ ho hb hg hat
     obtain ⟨Ao41,co41,eo41⟩:=Kd.R_slice HO387.out
     (first | subst eo41 | (injection eo41 with f1_ f2_ f3_;have f4_:=f1_.symm;have f5_:=f3_.symm;clear f1_ f2_ f3_;subst f4_;subst f5_))
     refine hK.out _ _ ⟨(kC_ BK372.out 0).trans rfl,(kC_ BK372.out 1).trans rfl,(kC_ BK372.out 2).trans rfl,(kC_ BK372.out 3).trans rfl⟩ (fun hHeld=>?_)
     clear hK K
     refine norm_ (a':=?_) ?_ ?_
     rotate_left
     ·show Act.put _ (some 24) _ = _
      simp only [Act.put,sI_,sZ_,sS_,i64_w,i32_w]
      rfl
     refine pure_ (i:=9) (N:=some 25) (v:=?_) (a':=?_) (tb_ 10 1) rfl rfl (any_of HT_.out (by kernel_rfl)) (fun _ _ _ h=>h) (Or.inl ⟨by rfl,?_⟩) ?_ ?_
     rotate_left
     ·intro w'
      go_simp
      with_reducible rfl
     rotate_left
     ·simp only [Act.put,sI_,sZ_,sS_,i64_w,i32_w]
      rfl
     refine last_ (i:=10) (N:=none) (tb_ 11 0) rfl rfl (one_of HT_.out (by kernel_rfl)) (by decide) (fun K hK=>?_)
     have hs42 : w40.cell? ⟨gb372,1,none⟩ = some (.slice Ao28 t361.length co28):=(kC_ BK372.out 1).trans rfl
     have hfs42:=kF_ BK372.out 1
     have hns42_0:=NB359_372.out
     have hms42_0:=NB372_359.out
     refine skip_ (w1:=?_) (by rfl) rfl ?_ ?_
     rotate_left
     ·go_simp
      rfl
     refine hK.out _ _ ?_
     clear hK K
     refine done_ (done_of HT_.out (by kernel_rfl)) ?_
     have hcz43_0 : w40.cell? ⟨gb372,0,none⟩ = some (.bool t360):=(kC_ BK372.out 0).trans rfl
     have hcz43_1 : w40.cell? ⟨gb372,1,none⟩ = some (.slice Ao28 t361.length co28):=(kC_ BK372.out 1).trans rfl
     have hcz43_2 : w40.cell? ⟨gb372,2,none⟩ = some (.slice Ao29 t364.length co29):=(kC_ BK372.out 2).trans rfl
     have hcz43_3 : w40.cell? ⟨gb372,3,none⟩ = some (.slice Ao30 t367.length co30):=(kC_ BK372.out 3).trans rfl
     have hfz43_0:=kF_ BK372.out 0
     have hfz43_1:=kF_ BK372.out 1
     have hfz43_2:=kF_ BK372.out 2
     have hfz43_3:=kF_ BK372.out 3
     have hnb44:=NB359_0.out
     have hnc44:=NB0_359.out
     have hcz45_0 : w40.cell? ⟨gb359,0,none⟩ = some (.bool false):=(kC_ BK359.out 0).trans rfl
     have hcz45_1 : w40.cell? ⟨gb359,1,none⟩ = some (.slice none 0 0):=(kC_ BK359.out 1).trans rfl
     have hcz45_2 : w40.cell? ⟨gb359,2,none⟩ = some (.slice none 0 0):=(kC_ BK359.out 2).trans rfl
     have hcz45_3 : w40.cell? ⟨gb359,3,none⟩ = some (.slice none 0 0):=(kC_ BK359.out 3).trans rfl
     have hfz45_0:=kF_ BK359.out 0
     have hfz45_1:=kF_ BK359.out 1
     have hfz45_2:=kF_ BK359.out 2
     have hfz45_3:=kF_ BK359.out 3
     try go_wp2
     refine bodyPost_ret (results_cell_row rfl _ _ gb359 29 #[.bool t360,.slice Ao41 y385.length co41,.slice Ao29 t364.length co29,.slice Ao30 t367.length co30] (0,0) _ rfl (by (with_reducible repeat (first | refine kN_ ?_ _ | refine kD_ ?_ | refine kA_ ?_ _));refine kP_ (cs:=#[.bool t360,.slice Ao41 y385.length co41,.slice Ao29 t364.length co29,.slice none 0 0]) ?_ 3 _ rfl;(with_reducible repeat (first | refine kN_ ?_ _ | refine kD_ ?_ | refine kA_ ?_ _));refine kP_ (cs:=#[.bool t360,.slice Ao41 y385.length co41,.slice none 0 0,.slice none 0 0]) ?_ 2 _ rfl;(with_reducible repeat (first | refine kN_ ?_ _ | refine kD_ ?_ | refine kA_ ?_ _));refine kP_ (cs:=#[.bool t360,.slice none 0 0,.slice none 0 0,.slice none 0 0]) ?_ 1 _ rfl;(with_reducible repeat (first | refine kN_ ?_ _ | refine kD_ ?_ | refine kA_ ?_ _));refine kP_ (cs:=#[.bool false,.slice none 0 0,.slice none 0 0,.slice none 0 0]) ?_ 0 _ rfl;exact kW_ BK359) Try.underlying29 rfl (by kernel_rfl)) rfl ?_
     exact ⟨_,_,_,by first | rfl | (simp [errW_none,errW_some] <;> rfl) | (simp [*, errW_none,errW_some] <;> rfl),by (with_reducible repeat (first | apply rA_ | apply rN_ | apply rD_));exact Kd.R_mono (Kd.R_far (p:=⟨gb359,3,none⟩) (Kd.R_far (p:=⟨gb359,2,none⟩) (Kd.R_far (p:=⟨gb359,1,none⟩) (Kd.R_far (p:=⟨gb359,0,none⟩) (Kd.R_far (p:=⟨gb372,1,none⟩) (Kd.R_types (Kd.R_types HO387.out BK372.out (by decide)) BK359.out (by decide)) (fun _ hk=>hk.1.2) (.slice Ao41 y385.length co41)) (fun _ hk=>hk.2) (.bool t360)) (fun _ hk=>hk.2) (.slice Ao41 y385.length co41)) (fun _ hk=>hk.2) (.slice Ao29 t364.length co29)) (fun _ hk=>hk.2) (.slice Ao30 t367.length co30)) (fun _ hk=>hk.1.1.1),by (with_reducible repeat (first | apply rA_ | apply rN_ | apply rD_));exact Kd.R_mono (Kd.R_far (p:=⟨gb359,3,none⟩) (Kd.R_far (p:=⟨gb359,2,none⟩) (Kd.R_far (p:=⟨gb359,1,none⟩) (Kd.R_far (p:=⟨gb359,0,none⟩) (Kd.R_far (p:=⟨gb372,1,none⟩) (Kd.R_types (Kd.R_types HO366.out BK372.out (by decide)) BK359.out (by decide)) (fun _ hk=>hk.1.2) (.slice Ao41 y385.length co41)) (fun _ hk=>hk.2) (.bool t360)) (fun _ hk=>hk.2) (.slice Ao41 y385.length co41)) (fun _ hk=>hk.2) (.slice Ao29 t364.length co29)) (fun _ hk=>hk.2) (.slice Ao30 t367.length co30)) (fun _ hk=>hk.1.1.2),by (with_reducible repeat (first | apply rA_ | apply rN_ | apply rD_));exact Kd.R_mono (Kd.R_far (p:=⟨gb359,3,none⟩) (Kd.R_far (p:=⟨gb359,2,none⟩) (Kd.R_far (p:=⟨gb359,1,none⟩) (Kd.R_far (p:=⟨gb359,0,none⟩) (Kd.R_far (p:=⟨gb372,1,none⟩) (Kd.R_types (Kd.R_types HO369.out BK372.out (by decide)) BK359.out (by decide)) (fun _ hk=>hk.1.2) (.slice Ao41 y385.length co41)) (fun _ hk=>hk.2) (.bool t360)) (fun _ hk=>hk.2) (.slice Ao41 y385.length co41)) (fun _ hk=>hk.2) (.slice Ao29 t364.length co29)) (fun _ hk=>hk.2) (.slice Ao30 t367.length co30)) (fun _ hk=>trivial),by repeat first | exact J155.z HI0 | apply J155.set_1 | apply J155.set_2 | refine J155.y ?_,by have e0_:=aM_ (J155.ge HI0.out);exact bZ_ HB,by exact eZ_ HK⟩
    ·rw [if_neg c21] at H
     exact absurd H (by simp)
   ·rw [if_neg c19] at H
    exact absurd H (by simp)
  ·rw [if_neg c18] at H
   have c18b0 : (t373 == 1) = false:=beq_eq_false_iff_ne.mpr c18
   have c18b1 : (t373 != 1) = true:=bne_iff_ne.mpr c18
   by_cases c46 : t373 = 2
   ·rw [if_pos c46] at H
    have c46b0 : (t373 == 2) = true:=beq_iff_eq.mpr c46
    have c46b1 : (t373 != 2) = false:=bne_eq_false_iff_eq.mpr c46
    clear c46
    by_cases c47 : 61 ≤ 281474976710656
    ·rw [if_pos c47] at H
     have c47b0:=eq_true c47
     have c47b1 : decide (61 ≤ 281474976710656) = true:=decide_eq_true c47
     clear c47
     obtain ⟨y388,hy388⟩ : ∃ y_ : List Int,y_ = (List.replicate 61 0):=⟨_,rfl⟩
     replace H : ((spec_l1Str.f s0_0 t374 t375 (([(⟨#[118]⟩ : ByteArray),strOfNums y388] : List ByteArray))).bind fun bt394=>(if t364.length < 8796093022208 then (some (t360,t361,(t364 ++ [bt394.1]),t367,bt394.2.1,bt394.2.2)) else (none))) = some (r1,r2,r3,r4,r5,r6):=by first | (rw [hy388];with_reducible exact H) | (have H2_:=(Option.bind_some _ _).symm.trans H;rw [hy388];with_reducible exact H2_) | (have H2_:=(Option.bind_some _ _).symm.trans H;with_reducible exact H2_) | with_reducible exact H | (rw [hy388];exact H) | exact H
     have Ny388:=aM_ hy388
     clear hy388
     obtain ⟨y391,hy391⟩ : ∃ y_ : List ByteArray,y_ = (([(⟨#[118]⟩ : ByteArray),strOfNums y388] : List ByteArray)):=⟨_,rfl⟩
     replace H : ((spec_l1Str.f s0_0 t374 t375 y391).bind fun bt394=>(if t364.length < 8796093022208 then (some (t360,t361,(t364 ++ [bt394.1]),t367,bt394.2.1,bt394.2.2)) else (none))) = some (r1,r2,r3,r4,r5,r6):=by first | (rw [hy391];with_reducible exact H) | (have H2_:=(Option.bind_some _ _).symm.trans H;rw [hy391];with_reducible exact H2_) | (have H2_:=(Option.bind_some _ _).symm.trans H;with_reducible exact H2_) | with_reducible exact H | (rw [hy391];exact H) | exact H
     have Ny391:=aM_ hy391
     clear hy391
     replace H:=oB_ H
     obtain ⟨⟨t394,t395,t396⟩,A480,H⟩:=H
     replace H : (if t364.length < 8796093022208 then (some (t360,t361,(t364 ++ [t394]),t367,t395,t396)) else (none)) = some (r1,r2,r3,r4,r5,r6):=H
     have A48:=aM_ A480
     clear A480
     by_cases c49 : t364.length < 8796093022208
     ·rw [if_pos c49] at H
      have LMc49:=aM_ c49
      clear c49
      obtain ⟨y397,hy397⟩ : ∃ y_ : List ByteArray,y_ = (t364 ++ [t394]):=⟨_,rfl⟩
      replace H : (some (t360,t361,y397,t367,t395,t396)) = some (r1,r2,r3,r4,r5,r6):=by first | (rw [hy397];with_reducible exact H) | (have H2_:=(Option.bind_some _ _).symm.trans H;rw [hy397];with_reducible exact H2_) | (have H2_:=(Option.bind_some _ _).symm.trans H;with_reducible exact H2_) | with_reducible exact H | (rw [hy397];exact H) | exact H
      have Ny397:=aM_ hy397
      clear hy397
      simp only [Option.some.injEq,Prod.mk.injEq] at H
      obtain ⟨rfl,rfl,rfl,rfl,rfl,rfl⟩:=H
      go_enter Try.func84,Try.ntmps84
      try go_wp2_with (first | ((with_reducible refine gate_dst (N:=2) rfl ?_);refine box_event ?hg (N:=2) ?hd (cs:=#[.bool false,.slice none 0 0,.slice none 0 0,.slice none 0 0]) (t:=29) ?hr ?_;(case hd=>rfl);(case hg=>rfl);(case hr=>first | (go_simp;done) | (go_simp;rfl));intro gb359 hg w50 hbox hb;have n0_:=aM_ (J155.below (by repeat first | exact J155.z HI0 | apply J155.set_1 | apply J155.set_2 | refine J155.y ?_) hb);have n1_:=aM_ (KeepBut.trans (by exact eZ_ HK) (KeepBut.of_below hb g none) (.inl rfl));have n2_:=aM_ (bT_ (by have e0_:=aM_ (J155.ge HI0.out);exact bZ_ HB) hb);have n3_:=aM_ (hbox);have n4_:=aM_ ((by rw [hg];exact (keep_size (w:=w) (g:=g) (row:=none) (by exact eZ_ HK)) : w.heap.size ≤ gb359));have n5_:=aM_ ((Nat.le_trans HW0.out (by rw [hg];exact (keep_size (w:=w) (g:=g) (row:=none) (by exact eZ_ HK)) : w.heap.size ≤ gb359) : w0.heap.size ≤ gb359));have n6_:=aM_ ((by rw [hg];exact Nat.ne_of_lt (J155.lt (show J155 w0 _ g s0_0 s0_1 s0_2 from by repeat first | exact J155.z HI0 | apply J155.set_1 | apply J155.set_2 | refine J155.y ?_)) : g ≠ gb359));have n7_:=aM_ ((by rw [hg];exact Nat.ne_of_gt (J155.lt (show J155 w0 _ g s0_0 s0_1 s0_2 from by repeat first | exact J155.z HI0 | apply J155.set_1 | apply J155.set_2 | refine J155.y ?_)) : gb359 ≠ g));clear HI0 HK HB;have HI0:=n0_;have HK:=n1_;have HB:=n2_;have BK359:=n3_;have GW359:=n4_;have GE359:=n5_;have NB0_359:=n6_;have NB359_0:=n7_;clear n0_ n1_ n2_ n3_ n4_ n5_ n6_ n7_ hb hbox hg) | ((with_reducible refine gate_callee (f:=86) rfl ?_);refine goesL_ (some 5) rfl rfl Try.func86 (by kernel_rfl) rfl #[.pointer (some ⟨g,0,none⟩)] rfl (by (try simp only [mA_,mC_,mN_]);first | done | rfl | (simp only [lD_,lT_];rfl)) ?_;(with_reducible refine (spec_l14Draw.calls k g s0_0 s0_1 s0_2 t360 t361 t364 t367 t370 t371 w0 _ ?side1 ?side2 A2.out).mono ?_);(case side1=>repeat first | exact J155.z HI0 | apply J155.set_1 | apply J155.set_2 | refine J155.y ?_);(case side2=>have e0_:=aM_ (J155.ge HI0.out);exact bZ_ HB);rintro e w51 ⟨v362,v365,v368,rfl,ho0,ho1,ho2,hi,hb,hk⟩;refine ⟨_,rfl,?_⟩;have n0_:=aM_ (KeepBut.blk hk (g':=gb359) (o:=.cells #[.bool false,.slice none 0 0,.slice none 0 0,.slice none 0 0] 29 (0,0)) (by exact kZ_ BK359) NB359_0.out (by simp));have n1_:=aM_ (Kd.R_lower ho0 (keep_size (w:=w) (g:=g) (row:=none) (by exact eZ_ HK)));have n2_:=aM_ (Kd.R_lower ho1 (keep_size (w:=w) (g:=g) (row:=none) (by exact eZ_ HK)));have n3_:=aM_ (Kd.R_lower ho2 (keep_size (w:=w) (g:=g) (row:=none) (by exact eZ_ HK)));have n4_:=aM_ (KeepBut.trans (by exact eZ_ HK) hk (.inl rfl));have n5_:=aM_ (hb);have n6_:=aM_ (hi);clear BK359 HK HB HI0;have BK359:=n0_;have HO363:=n1_;have HO366:=n2_;have HO369:=n3_;have HK:=n4_;have HB:=n5_;have HI0:=n6_;clear n0_ n1_ n2_ n3_ n4_ n5_ n6_ hb hk hi ho0 ho1 ho2) | ((with_reducible refine gate_dst (N:=3) rfl ?_);refine box_event ?hg (N:=3) ?hd (cs:=#[.bool false,.slice none 0 0,.slice none 0 0,.slice none 0 0]) (t:=29) ?hr ?_;(case hd=>rfl);(case hg=>rfl);(case hr=>first | (go_simp;done) | (go_simp;rfl));intro gb372 hg w52 hbox hb;have n0_:=aM_ (Kd.R_below (by exact rZ_ HO363) hb);have n1_:=aM_ (Kd.R_below (by exact rZ_ HO366) hb);have n2_:=aM_ (Kd.R_below (by exact rZ_ HO369) hb);have n3_:=aM_ (J155.below (by repeat first | exact J155.z HI0 | apply J155.set_1 | apply J155.set_2 | refine J155.y ?_) hb);have n4_:=aM_ (blk_below (g:=gb359) (o:=.cells #[.bool false,.slice none 0 0,.slice none 0 0,.slice none 0 0] 29 (0,0)) (by exact kZ_ BK359) hb);have n5_:=aM_ (KeepBut.trans (by exact eZ_ HK) (KeepBut.of_below hb g none) (.inl rfl));have n6_:=aM_ (bT_ (by have e0_:=aM_ (J155.ge HI0.out);exact bZ_ HB) hb);have n7_:=aM_ (hbox);have n8_:=aM_ ((by rw [hg];exact (keep_size (w:=w) (g:=g) (row:=none) (by exact eZ_ HK)) : w.heap.size ≤ gb372));have n9_:=aM_ ((Nat.le_trans HW0.out (by rw [hg];exact (keep_size (w:=w) (g:=g) (row:=none) (by exact eZ_ HK)) : w.heap.size ≤ gb372) : w0.heap.size ≤ gb372));have n10_:=aM_ ((by rw [hg];exact Nat.ne_of_lt (blk_lt (g:=gb359) (o:=.cells #[.bool false,.slice none 0 0,.slice none 0 0,.slice none 0 0] 29 (0,0)) (by exact kZ_ BK359)) : gb359 ≠ gb372));have n11_:=aM_ ((by rw [hg];exact Nat.ne_of_gt (blk_lt (g:=gb359) (o:=.cells #[.bool false,.slice none 0 0,.slice none 0 0,.slice none 0 0] 29 (0,0)) (by exact kZ_ BK359)) : gb372 ≠ gb359));have n12_:=aM_ ((by rw [hg];exact Nat.ne_of_lt (J155.lt (show J155 w0 _ g s0_0 t370 t371 from by repeat first | exact J155.z HI0 | apply J155.set_1 | apply J155.set_2 | refine J155.y ?_)) : g ≠ gb372));have n13_:=aM_ ((by rw [hg];exact Nat.ne_of_gt (J155.lt (show J155 w0 _ g s0_0 t370 t371 from by repeat first | exact J155.z HI0 | apply J155.set_1 | apply J155.set_2 | refine J155.y ?_)) : gb372 ≠ g));clear HO363 HO366 HO369 HI0 BK359 HK HB;have HO363:=n0_;have HO366:=n1_;have HO369:=n2_;have HI0:=n3_;have BK359:=n4_;have HK:=n5_;have HB:=n6_;have BK372:=n7_;have GW372:=n8_;have GE372:=n9_;have NB359_372:=n10_;have NB372_359:=n11_;have NB0_372:=n12_;have NB372_0:=n13_;clear n0_ n1_ n2_ n3_ n4_ n5_ n6_ n7_ n8_ n9_ n10_ n11_ n12_ n13_ hb hbox hg;have hnb53:=NB372_359.out;have hnc53:=NB359_372.out;have hnb54:=NB372_0.out;have hnc54:=NB0_372.out;have hcz55_0 : w52.cell? ⟨gb372,0,none⟩ = some (.bool false):=(kC_ BK372.out 0).trans rfl;have hcz55_1 : w52.cell? ⟨gb372,1,none⟩ = some (.slice none 0 0):=(kC_ BK372.out 1).trans rfl;have hcz55_2 : w52.cell? ⟨gb372,2,none⟩ = some (.slice none 0 0):=(kC_ BK372.out 2).trans rfl;have hcz55_3 : w52.cell? ⟨gb372,3,none⟩ = some (.slice none 0 0):=(kC_ BK372.out 3).trans rfl;have hfz55_0:=kF_ BK372.out 0;have hfz55_1:=kF_ BK372.out 1;have hfz55_2:=kF_ BK372.out 2;have hfz55_3:=kF_ BK372.out 3;obtain ⟨Ao56,co56,eo56⟩:=Kd.R_slice HO363.out;subst eo56;obtain ⟨Ao57,co57,eo57⟩:=Kd.R_slice HO366.out;subst eo57;obtain ⟨Ao58,co58,eo58⟩:=Kd.R_slice HO369.out;subst eo58) | ((with_reducible refine gate_callee (f:=125) rfl ?_);refine goesL_ (some 7) rfl rfl Try.func125 (by kernel_rfl) rfl #[.pointer (some ⟨g,0,none⟩),.int .i64 12] rfl (by (try simp only [mA_,mC_,mN_]);first | done | rfl | (simp only [lD_,lT_];rfl)) ?_;(with_reducible refine (spec_l1Below.calls g s0_0 t370 t371 12 t373 t374 t375 w0 _ ?side1 ?side2 A3.out).mono ?_);(case side1=>repeat first | exact J155.z HI0 | apply J155.set_1 | apply J155.set_2 | refine J155.y ?_);(case side2=>have e0_:=aM_ (J155.ge HI0.out);exact bZ_ HB);rintro e w59 ⟨rfl,hi,hb,hk⟩;refine ⟨_,rfl,?_⟩;have n0_:=aM_ (KeepBut.blk hk (g':=gb359) (o:=.cells #[.bool false,.slice none 0 0,.slice none 0 0,.slice none 0 0] 29 (0,0)) (by exact kW_ BK359) NB359_0.out (by simp));have n1_:=aM_ (Kd.R_mono (Kd.R_keep (J155.apart (show J155 w0 _ g s0_0 t370 t371 from by repeat first | exact J155.z HI0 | apply J155.set_1 | apply J155.set_2 | refine J155.y ?_) (by (with_reducible repeat (first | apply rA_ | apply rN_ | apply rD_));exact (Kd.R_mono (Kd.R_far (p:=⟨gb372,3,none⟩) (Kd.R_far (p:=⟨gb372,2,none⟩) (Kd.R_far (p:=⟨gb372,1,none⟩) (Kd.R_far (p:=⟨gb372,0,none⟩) (Kd.R_types HO363.out BK372.out (by decide)) (fun _ hk=>hk.2) (.bool t360)) (fun _ hk=>hk.2) (.slice Ao56 t361.length co56)) (fun _ hk=>hk.2) (.slice Ao57 t364.length co57)) (fun _ hk=>hk.2) (.slice Ao58 t367.length co58)) (fun _ h_=>h_.1))) (by decide)) hk (fun _ h=>h.2)) (fun _ h=>h.1));have n2_:=aM_ (Kd.R_mono (Kd.R_keep (J155.apart (show J155 w0 _ g s0_0 t370 t371 from by repeat first | exact J155.z HI0 | apply J155.set_1 | apply J155.set_2 | refine J155.y ?_) (by (with_reducible repeat (first | apply rA_ | apply rN_ | apply rD_));exact (Kd.R_mono (Kd.R_far (p:=⟨gb372,3,none⟩) (Kd.R_far (p:=⟨gb372,2,none⟩) (Kd.R_far (p:=⟨gb372,1,none⟩) (Kd.R_far (p:=⟨gb372,0,none⟩) (Kd.R_types HO366.out BK372.out (by decide)) (fun _ hk=>hk.2) (.bool t360)) (fun _ hk=>hk.2) (.slice Ao56 t361.length co56)) (fun _ hk=>hk.2) (.slice Ao57 t364.length co57)) (fun _ hk=>hk.2) (.slice Ao58 t367.length co58)) (fun _ h_=>h_.1))) (by decide)) hk (fun _ h=>h.2)) (fun _ h=>h.1));have n3_:=aM_ (Kd.R_mono (Kd.R_keep (J155.apart (show J155 w0 _ g s0_0 t370 t371 from by repeat first | exact J155.z HI0 | apply J155.set_1 | apply J155.set_2 | refine J155.y ?_) (by (with_reducible repeat (first | apply rA_ | apply rN_ | apply rD_));exact (Kd.R_mono (Kd.R_far (p:=⟨gb372,3,none⟩) (Kd.R_far (p:=⟨gb372,2,none⟩) (Kd.R_far (p:=⟨gb372,1,none⟩) (Kd.R_far (p:=⟨gb372,0,none⟩) (Kd.R_types HO369.out BK372.out (by decide)) (fun _ hk=>hk.2) (.bool t360)) (fun _ hk=>hk.2) (.slice Ao56 t361.length co56)) (fun _ hk=>hk.2) (.slice Ao57 t364.length co57)) (fun _ hk=>hk.2) (.slice Ao58 t367.length co58)) (fun _ h_=>h_.1))) (by decide)) hk (fun _ h=>h.2)) (fun _ h=>h.1));have n4_:=aM_ (KeepBut.blk hk (g':=gb372) (o:=.cells #[.bool t360,.slice Ao56 t361.length co56,.slice Ao57 t364.length co57,.slice Ao58 t367.length co58] 29 (0,0)) (by (with_reducible repeat (first | refine kN_ ?_ _ | refine kD_ ?_ | refine kA_ ?_ _));refine kP_ (cs:=#[.bool t360,.slice Ao56 t361.length co56,.slice Ao57 t364.length co57,.slice none 0 0]) ?_ 3 _ rfl;(with_reducible repeat (first | refine kN_ ?_ _ | refine kD_ ?_ | refine kA_ ?_ _));refine kP_ (cs:=#[.bool t360,.slice Ao56 t361.length co56,.slice none 0 0,.slice none 0 0]) ?_ 2 _ rfl;(with_reducible repeat (first | refine kN_ ?_ _ | refine kD_ ?_ | refine kA_ ?_ _));refine kP_ (cs:=#[.bool t360,.slice none 0 0,.slice none 0 0,.slice none 0 0]) ?_ 1 _ rfl;(with_reducible repeat (first | refine kN_ ?_ _ | refine kD_ ?_ | refine kA_ ?_ _));refine kP_ (cs:=#[.bool false,.slice none 0 0,.slice none 0 0,.slice none 0 0]) ?_ 0 _ rfl;exact kZ_ BK372) NB372_0.out (by simp));have n5_:=aM_ (KeepBut.trans (by exact eZ_ HK) hk (.inl rfl));have n6_:=aM_ (hb);have n7_:=aM_ (hi);clear BK359 HO363 HO366 HO369 BK372 HK HB HI0;have BK359:=n0_;have HO363:=n1_;have HO366:=n2_;have HO369:=n3_;have BK372:=n4_;have HK:=n5_;have HB:=n6_;have HI0:=n7_;clear n0_ n1_ n2_ n3_ n4_ n5_ n6_ n7_ hb hk hi))
      have n0_:=aM_ (rD_ HO363.out)
      have n1_:=aM_ (rD_ HO366.out)
      have n2_:=aM_ (rD_ HO369.out)
      have n3_:=aM_ (kD_ BK359.out)
      have n4_:=aM_ (kD_ BK372.out)
      have n5_:=aM_ (J155.drew HI0.out)
      have n6_:=aM_ (eD_ HK.out)
      have n7_:=aM_ (bD_ HB.out)
      clear HO363 HO366 HO369 BK359 BK372 HI0 HK HB
      have HO363:=n0_
      have HO366:=n1_
      have HO369:=n2_
      have BK359:=n3_
      have BK372:=n4_
      have HI0:=n5_
      have HK:=n6_
      have HB:=n7_
      clear n0_ n1_ n2_ n3_ n4_ n5_ n6_ n7_
      refine start_ (n:=11) (S:=fun w'=>w'.cell? ⟨gb372,0,none⟩ = some (.bool t360) ∧ w'.cell? ⟨gb372,1,none⟩ = some (.slice Ao56 t361.length co56) ∧ w'.cell? ⟨gb372,2,none⟩ = some (.slice Ao57 t364.length co57) ∧ w'.cell? ⟨gb372,3,none⟩ = some (.slice Ao58 t367.length co58)) (ds:=[10]) (tb_ 0 11) (by kernel_rfl) rfl rfl ⟨(kC_ BK372.out 0).trans rfl,(kC_ BK372.out 1).trans rfl,(kC_ BK372.out 2).trans rfl,(kC_ BK372.out 3).trans rfl⟩ (fun hHeld=>?_);refine with_tabW spec_l14Any.tab8 spec_l14Any.bits8 (fun HT_ HW_=>?_)
      generalize w59.drew = w60 at HO363 HO366 HO369 BK359 BK372 HI0 HK HB hHeld ⊢
      refine pure_ (i:=0) (N:=some 28) (v:=?_) (a':=?_) (tb_ 1 10) rfl rfl (any_of HT_.out (by kernel_rfl)) (fun _ _ _ h=>h) (Or.inl ⟨by rfl,?_⟩) ?_ ?_
      rotate_left
      ·intro w'
       go_simp
       with_reducible rfl
      rotate_left
      ·simp only [Act.put,sI_,sZ_,sS_,i64_w,i32_w]
       rfl
      refine pure_ (i:=2) (N:=some 30) (v:=?_) (a':=?_) #[true,false,true,false,false,false,false,false,false,false,false] rfl rfl (any_of HT_.out (by kernel_rfl)) (fun _ _ _ h=>h) (Or.inl ⟨by rfl,?_⟩) ?_ ?_
      rotate_left
      ·intro w'
       go_simp
       with_reducible rfl
      rotate_left
      ·simp only [Act.put,sI_,sZ_,sS_,i64_w,i32_w]
       rfl
      refine take_ (i:=1) (N:=some 29) (v:=?_) (a':=?_) (tb_ 3 8) rfl rfl (take_ofW HT_.out HW_.out (by kernel_rfl)) (fun _ _ _ h=>h) (Or.inl ⟨by rfl,?_⟩) hHeld ?_ ?_
      rotate_left
      ·rintro w' ⟨s0,s1,s2,s3⟩
       go_simp
       with_reducible rfl
      rotate_left
      ·simp only [Act.put,sI_,sZ_,sS_,i64_w,i32_w]
       rfl
      refine one_ (i:=3) (N:=some 31) (tb_ 4 7) rfl rfl (one_of HT_.out (by kernel_rfl)) (by decide) (fun K hK=>?_)
      refine Kd.R_make_step (Kd.int .u8) _ 5 (by rfl) (N:=31) rfl 27 _ _ rfl 61 rfl rfl Try.underlying27 (.int .u8 0) 1 info5 rfl (by decide) (by omega) 0 (ok:=fun _=>True) (okp:=fun _=>True) rfl (fun _ hk=>hk) trivial (by omega) (by omega) (Below.refl _ _) (Nat.le_refl _) ?_
      intro v389 w61 ho62 hb hg_ hnew_
      clear hg_ hnew_
      (first | rw [← Ny388.out] at ho62 | (simp only [Int.reduceToNat] at ho62;rw [← Ny388.out] at ho62))
      have n0_:=aM_ (Kd.R_below (by exact rZ_ HO363) hb)
      have n1_:=aM_ (Kd.R_below (by exact rZ_ HO366) hb)
      have n2_:=aM_ (Kd.R_below (by exact rZ_ HO369) hb)
      have n3_:=aM_ (Kd.R_lower ho62 (keep_size (w:=w) (g:=g) (row:=none) (by exact eZ_ HK)))
      have n4_:=aM_ (J155.below (by repeat first | exact J155.z HI0 | apply J155.set_1 | apply J155.set_2 | refine J155.y ?_) hb)
      have n5_:=aM_ (blk_below (g:=gb359) (o:=.cells #[.bool false,.slice none 0 0,.slice none 0 0,.slice none 0 0] 29 (0,0)) (by exact kZ_ BK359) hb)
      have n6_:=aM_ (blk_below (g:=gb372) (o:=.cells #[.bool t360,.slice Ao56 t361.length co56,.slice Ao57 t364.length co57,.slice Ao58 t367.length co58] 29 (0,0)) (by exact kZ_ BK372) hb)
      have n7_:=aM_ (KeepBut.trans (by exact eZ_ HK) (KeepBut.of_below hb g none) (.inl rfl))
      have n8_:=aM_ (bT_ (by have e0_:=aM_ (J155.ge HI0.out);exact bZ_ HB) hb)
      clear HO363 HO366 HO369 HI0 BK359 BK372 HK HB
      have HO363:=n0_
      have HO366:=n1_
      have HO369:=n2_
      have HO390:=n3_
      have HI0:=n4_
      have BK359:=n5_
      have BK372:=n6_
      have HK:=n7_
      have HB:=n8_
      clear n0_ n1_ n2_ n3_ n4_ n5_ n6_ n7_ n8_ hb ho62
      refine hK.out _ _ ⟨(kC_ BK372.out 0).trans rfl,(kC_ BK372.out 1).trans rfl,(kC_ BK372.out 2).trans rfl,(kC_ BK372.out 3).trans rfl⟩ (fun hHeld=>?_)
      clear hK K
      refine norm_ (a':=?_) ?_ ?_
      rotate_left
      ·show Act.put _ (some 31) _ = _
       simp only [Act.put,sI_,sZ_,sS_,i64_w,i32_w]
       rfl
      refine one_ (i:=4) (N:=some 32) (tb_ 5 6) rfl rfl (one_of HT_.out (by kernel_rfl)) (by decide) (fun K hK=>?_)
      have hcv63:=own_string (P:=Try.prog) Try.underlying27 Try.underlying5 Try.underlying9 (Kd.own_of_R HO390.out)
      refine value_ (w1:=?_) (v:=?_) (by rfl) rfl ?_ ?_
      rotate_left 2
      ·go_simp
       constructor
       ·rfl
       ·rfl
      clear hcv63
      refine hK.out _ _ ⟨(kC_ BK372.out 0).trans rfl,(kC_ BK372.out 1).trans rfl,(kC_ BK372.out 2).trans rfl,(kC_ BK372.out 3).trans rfl⟩ (fun hHeld=>?_)
      clear hK K
      refine norm_ (a':=?_) ?_ ?_
      rotate_left
      ·show Act.put _ (some 32) _ = _
       simp only [Act.put,sI_,sZ_,sS_,i64_w,i32_w]
       rfl
      refine one_ (i:=5) (N:=some 33) (tb_ 6 5) rfl rfl (one_of HT_.out (by kernel_rfl)) (by decide) (fun K hK=>?_)
      refine Kd.R_lit_step Kd.string _ 9 ?hg (N:=33) ?hd (xs:=([(⟨#[118]⟩ : ByteArray),strOfNums y388] : List ByteArray)) (inner:=[.string (⟨#[118]⟩ : ByteArray),.string (strOfNums y388)]) (ok:=fun _=>True) (okp:=fun _=>True) ?hr ?hp (fun _ hk=>hk) trivial (Below.refl _ _) (Nat.le_refl _) (by simp) ?_;(case hd=>rfl);(case hg=>rfl);(case hr=>first | (go_simp;done) | (go_simp;rfl));(case hp=>exact (Reps.one (show Kd.M Kd.string _ _ _ (⟨#[118]⟩ : ByteArray) [.string (⟨#[118]⟩ : ByteArray)] from rfl) (Reps.one (show Kd.M Kd.string _ _ _ (strOfNums y388) [.string (strOfNums y388)] from rfl) (Reps.none _ _))))
      intro v392 w64 ho65 hb hg_ hnew_
      clear hg_ hnew_
      (first | rw [← Ny391.out] at ho65 | (simp only [Int.reduceToNat] at ho65;rw [← Ny391.out] at ho65))
      have n0_:=aM_ (Kd.R_elder' (by exact rZ_ HO363) (Kd.R_base ho65) hb)
      have n1_:=aM_ (Kd.R_elder' (by exact rZ_ HO366) (Kd.R_base ho65) hb)
      have n2_:=aM_ (Kd.R_below (by exact rZ_ HO369) hb)
      have n3_:=aM_ (Kd.R_below (by exact rZ_ HO390) hb)
      have n4_:=aM_ (Kd.R_lower (Kd.R_new' (Kd.R_new' ho65 (Kd.R_lt (by exact rZ_ HO363))) (Kd.R_lt (by exact rZ_ HO366))) (keep_size (w:=w) (g:=g) (row:=none) (by exact eZ_ HK)))
      have n5_:=aM_ (J155.below (by repeat first | exact J155.z HI0 | apply J155.set_1 | apply J155.set_2 | refine J155.y ?_) hb)
      have n6_:=aM_ (blk_below (g:=gb359) (o:=.cells #[.bool false,.slice none 0 0,.slice none 0 0,.slice none 0 0] 29 (0,0)) (by exact kZ_ BK359) hb)
      have n7_:=aM_ (blk_below (g:=gb372) (o:=.cells #[.bool t360,.slice Ao56 t361.length co56,.slice Ao57 t364.length co57,.slice Ao58 t367.length co58] 29 (0,0)) (by exact kZ_ BK372) hb)
      have n8_:=aM_ (KeepBut.trans (by exact eZ_ HK) (KeepBut.of_below hb g none) (.inl rfl))
      have n9_:=aM_ (bT_ (by have e0_:=aM_ (J155.ge HI0.out);exact bZ_ HB) hb)
      clear HO363 HO366 HO369 HO390 HI0 BK359 BK372 HK HB
      have HO363:=n0_
      have HO366:=n1_
      have HO369:=n2_
      have HO390:=n3_
      have HO393:=n4_
      have HI0:=n5_
      have BK359:=n6_
      have BK372:=n7_
      have HK:=n8_
      have HB:=n9_
      clear n0_ n1_ n2_ n3_ n4_ n5_ n6_ n7_ n8_ n9_ hb ho65
      obtain ⟨Ao66,co66,eo66⟩:=Kd.R_slice HO393.out
      (first | subst eo66 | (injection eo66 with f1_ f2_ f3_;have f4_:=f1_.symm;have f5_:=f3_.symm;clear f1_ f2_ f3_;subst f4_;subst f5_))
      refine hK.out _ _ ⟨(kC_ BK372.out 0).trans rfl,(kC_ BK372.out 1).trans rfl,(kC_ BK372.out 2).trans rfl,(kC_ BK372.out 3).trans rfl⟩ (fun hHeld=>?_)
      clear hK K
      refine norm_ (a':=?_) ?_ ?_
      rotate_left
      ·show Act.put _ (some 33) _ = _
       simp only [Act.put,sI_,sZ_,sS_,i64_w,i32_w]
       rfl
      refine one_ (i:=6) (N:=some 34) (tb_ 7 4) rfl rfl (one_of HT_.out (by kernel_rfl)) (by decide) (fun K hK=>?_)
      refine goes_ Try.func124 (by kernel_rfl) rfl #[.pointer (some ⟨g,0,none⟩),.slice Ao66 y391.length co66] (by rfl) rfl rfl (by (try simp only [mA_,mC_,mN_]);first | done | rfl | (simp only [lD_,lT_];rfl)) ?_
      with_reducible refine (spec_l1Str.calls g s0_0 t374 t375 _ _ y391 t394 t395 t396 w0 _ ?side1 ?side2 ?side3 ?side4 ?side5 A48.out).mono ?_
      (case side1=>repeat first | exact J155.z HI0 | apply J155.set_1 | apply J155.set_2 | refine J155.y ?_)
      (case side2=>have e0_:=aM_ (J155.ge HI0.out);exact bZ_ HB)
      (case side3=>repeat (first | exact (Kd.R_reads' HO393.out).2.2 | (with_reducible refine cA_ ?_ _) | (with_reducible refine cN_ ?_ _) | (with_reducible refine cD_ ?_)))
      (case side4=>exact (Kd.R_reads' HO393.out).2.1)
      (case side5=>exact far_slice (J155.own_ne HI0.out HO393.out (by decide)))
      rintro e w67 ⟨rfl,hi,hb,hk⟩
      refine ⟨_,rfl,?_⟩
      have n0_:=aM_ (KeepBut.blk hk (g':=gb359) (o:=.cells #[.bool false,.slice none 0 0,.slice none 0 0,.slice none 0 0] 29 (0,0)) (by exact kZ_ BK359) NB359_0.out (by simp))
      have n1_:=aM_ (Kd.R_mono (Kd.R_keep (J155.apart (show J155 w0 _ g s0_0 t374 t375 from by repeat first | exact J155.z HI0 | apply J155.set_1 | apply J155.set_2 | refine J155.y ?_) (by exact rZ_ HO363) (by decide)) hk (fun _ h=>h.2)) (fun _ h=>h.1))
      have n2_:=aM_ (Kd.R_mono (Kd.R_keep (J155.apart (show J155 w0 _ g s0_0 t374 t375 from by repeat first | exact J155.z HI0 | apply J155.set_1 | apply J155.set_2 | refine J155.y ?_) (by exact rZ_ HO366) (by decide)) hk (fun _ h=>h.2)) (fun _ h=>h.1))
      have n3_:=aM_ (Kd.R_mono (Kd.R_keep (J155.apart (show J155 w0 _ g s0_0 t374 t375 from by repeat first | exact J155.z HI0 | apply J155.set_1 | apply J155.set_2 | refine J155.y ?_) (by exact rZ_ HO369) (by decide)) hk (fun _ h=>h.2)) (fun _ h=>h.1))
      have n4_:=aM_ (KeepBut.blk hk (g':=gb372) (o:=.cells #[.bool t360,.slice Ao56 t361.length co56,.slice Ao57 t364.length co57,.slice Ao58 t367.length co58] 29 (0,0)) (by exact kZ_ BK372) NB372_0.out (by simp))
      have n5_:=aM_ (Kd.R_mono (Kd.R_keep (J155.apart (show J155 w0 _ g s0_0 t374 t375 from by repeat first | exact J155.z HI0 | apply J155.set_1 | apply J155.set_2 | refine J155.y ?_) (by exact rZ_ HO390) (by decide)) hk (fun _ h=>h.2)) (fun _ h=>h.1))
      have n6_:=aM_ (Kd.R_mono (Kd.R_keep (J155.apart (show J155 w0 _ g s0_0 t374 t375 from by repeat first | exact J155.z HI0 | apply J155.set_1 | apply J155.set_2 | refine J155.y ?_) (by exact rZ_ HO393) (by decide)) hk (fun _ h=>h.2)) (fun _ h=>h.1))
      have n7_:=aM_ (KeepBut.trans (by exact eZ_ HK) hk (.inl rfl))
      have n8_:=aM_ (hb)
      have n9_:=aM_ (hi)
      clear BK359 HO363 HO366 HO369 BK372 HO390 HO393 HK HB HI0
      have BK359:=n0_
      have HO363:=n1_
      have HO366:=n2_
      have HO369:=n3_
      have BK372:=n4_
      have HO390:=n5_
      have HO393:=n6_
      have HK:=n7_
      have HB:=n8_
      have HI0:=n9_
      clear n0_ n1_ n2_ n3_ n4_ n5_ n6_ n7_ n8_ n9_ hb
      skip
      clear hk hi
      refine hK.out _ _ ⟨(kC_ BK372.out 0).trans rfl,(kC_ BK372.out 1).trans rfl,(kC_ BK372.out 2).trans rfl,(kC_ BK372.out 3).trans rfl⟩ (fun hHeld=>?_)
      clear hK K
      refine norm_ (a':=?_) ?_ ?_
      rotate_left
      ·show Act.put _ (some 34) _ = _
       simp only [Act.put,sI_,sZ_,sS_,i64_w,i32_w]
       rfl
      refine one_ (i:=7) (N:=some 35) (tb_ 8 3) rfl rfl (one_of HT_.out (by kernel_rfl)) (by decide) (fun K hK=>?_)
      refine value_ (w1:=?_) (v:=?_) (by rfl) rfl ?_ ?_
      rotate_left 2
      ·go_simp
       constructor
       ·rfl
       ·rfl
      refine hK.out _ _ ⟨(kC_ (kA_ BK372.out _) 0).trans rfl,(kC_ (kA_ BK372.out _) 1).trans rfl,(kC_ (kA_ BK372.out _) 2).trans rfl,(kC_ (kA_ BK372.out _) 3).trans rfl⟩ (fun hHeld=>?_)
      clear hK K
      refine norm_ (a':=?_) ?_ ?_
      rotate_left
      ·show Act.put _ (some 35) _ = _
       simp only [Act.put,sI_,sZ_,sS_,i64_w,i32_w]
       rfl
      refine one_ (i:=8) (N:=some 36) (tb_ 9 2) rfl rfl (one_of HT_.out (by kernel_rfl)) (by decide) (fun K hK=>?_)
      refine Kd.R_append_step Kd.string w.heap.size (by rfl) (.tmp 29) (.tmp 35) 22 9 (.string ⟨#[]⟩) 16 rfl Try.underlying22 info9 rfl (by decide) (by omega) (.slice Ao57 t364.length co57) t364 t394 [.string t394] (fun k_=>some k_ ≠ (.slice Ao56 t361.length co56 : Value).ownBlock ∧ some k_ ≠ (.slice Ao66 y391.length co66 : Value).ownBlock) (fun _=>False) rfl rfl ?aP (fun _ hk=>hk.elim) ?aF ?aO (Below.refl _ _) ?aS ?aL ?_
      (case aP=>exact rfl)
      (case aF=>exact (fun k_ hk=>⟨Kd.fresh' (Kd.R_lt (by exact rZ_ HO363)) k_ hk,Kd.fresh' (Kd.R_lt (by exact rZ_ HO393)) k_ hk⟩))
      (case aO=>exact (by exact rZ_ HO366))
      (case aS=>exact (keep_size (w:=w) (g:=g) (row:=none) (by exact eZ_ HK)))
      (case aL=>have:=LMc49.out;omega)
      intro v398 w68 ho hb hg hat
      rw [← Ny397.out] at ho
      have n0_:=aM_ (J155.grown (by repeat first | exact J155.z HI0 | apply J155.set_1 | apply J155.set_2 | refine J155.y ?_) hg (J155.own_ne HI0.out HO366.out (by decide)))
      have n1_:=aM_ (blk_grown (g:=gb359) (o:=.cells #[.bool false,.slice none 0 0,.slice none 0 0,.slice none 0 0] 29 (0,0)) (by exact kZ_ BK359) hg (Kd.R_ne HO366.out BK359.out (by decide)))
      have n2_:=aM_ (Kd.R_after (ok:=(fun k_=>some k_ ≠ (.slice Ao66 y391.length co66 : Value).ownBlock)) (by (with_reducible repeat (first | apply rA_ | apply rN_ | apply rD_));exact Kd.R_mono HO363.out (fun _ hk=>⟨hk.2,hk.1⟩)) hg hat)
      have n3_:=aM_ (Kd.R_over' (by exact rZ_ HO369) (Kd.R_typed (by exact rZ_ HO366)) (by decide) hg)
      have n4_:=aM_ (blk_grown (g:=gb372) (o:=.cells #[.bool t360,.slice Ao56 t361.length co56,.slice Ao57 t364.length co57,.slice Ao58 t367.length co58] 29 (0,0)) (by exact kZ_ BK372) hg (Kd.R_ne HO366.out BK372.out (by decide)))
      have n5_:=aM_ (Kd.R_over' (by exact rZ_ HO390) (Kd.R_typed (by exact rZ_ HO366)) (by decide) hg)
      have n6_:=aM_ (Kd.R_after (ok:=(fun k_=>some k_ ≠ (.slice Ao56 t361.length co56 : Value).ownBlock)) (by (with_reducible repeat (first | apply rA_ | apply rN_ | apply rD_));exact Kd.R_mono HO393.out (fun _ hk=>⟨hk.1.2,hk.2⟩)) hg hat)
      have n7_:=aM_ (below_weaken (by have e0_:=aM_ (J155.ge HI0.out);exact bZ_ HB) HL.out hb)
      have n8_:=aM_ (KeepBut.trans (by exact eZ_ HK) (KeepBut.of_grown hg g) (Kd.R_base2 HO366.out))
      have n9_:=aM_ (ho)
      clear HI0 BK359 HO363 HO369 BK372 HO390 HO393 HB HK HO366
      have HI0:=n0_
      have BK359:=n1_
      have HO363:=n2_
      have HO369:=n3_
      have BK372:=n4_
      have HO390:=n5_
      have HO393:=n6_
      have HB:=n7_
      have HK:=n8_
      have HO399:=n9_
      clear n0_ n1_ n2_ n3_ n4_ n5_ n6_ n7_ n8_ n9_ ho hb hg hat
      obtain ⟨Ao69,co69,eo69⟩:=Kd.R_slice HO399.out
      (first | subst eo69 | (injection eo69 with f1_ f2_ f3_;have f4_:=f1_.symm;have f5_:=f3_.symm;clear f1_ f2_ f3_;subst f4_;subst f5_))
      refine hK.out _ _ ⟨(kC_ BK372.out 0).trans rfl,(kC_ BK372.out 1).trans rfl,(kC_ BK372.out 2).trans rfl,(kC_ BK372.out 3).trans rfl⟩ (fun hHeld=>?_)
      clear hK K
      refine norm_ (a':=?_) ?_ ?_
      rotate_left
      ·show Act.put _ (some 36) _ = _
       simp only [Act.put,sI_,sZ_,sS_,i64_w,i32_w]
       rfl
      refine pure_ (i:=9) (N:=some 37) (v:=?_) (a':=?_) (tb_ 10 1) rfl rfl (any_of HT_.out (by kernel_rfl)) (fun _ _ _ h=>h) (Or.inl ⟨by rfl,?_⟩) ?_ ?_
      rotate_left
      ·intro w'
       go_simp
       with_reducible rfl
      rotate_left
      ·simp only [Act.put,sI_,sZ_,sS_,i64_w,i32_w]
       rfl
      refine last_ (i:=10) (N:=none) (tb_ 11 0) rfl rfl (one_of HT_.out (by kernel_rfl)) (by decide) (fun K hK=>?_)
      have hs70 : w68.cell? ⟨gb372,2,none⟩ = some (.slice Ao57 t364.length co57):=(kC_ BK372.out 2).trans rfl
      have hfs70:=kF_ BK372.out 2
      have hns70_0:=NB359_372.out
      have hms70_0:=NB372_359.out
      refine skip_ (w1:=?_) (by rfl) rfl ?_ ?_
      rotate_left
      ·go_simp
       rfl
      refine hK.out _ _ ?_
      clear hK K
      refine done_ (done_of HT_.out (by kernel_rfl)) ?_
      have hcz71_0 : w68.cell? ⟨gb372,0,none⟩ = some (.bool t360):=(kC_ BK372.out 0).trans rfl
      have hcz71_1 : w68.cell? ⟨gb372,1,none⟩ = some (.slice Ao56 t361.length co56):=(kC_ BK372.out 1).trans rfl
      have hcz71_2 : w68.cell? ⟨gb372,2,none⟩ = some (.slice Ao57 t364.length co57):=(kC_ BK372.out 2).trans rfl
      have hcz71_3 : w68.cell? ⟨gb372,3,none⟩ = some (.slice Ao58 t367.length co58):=(kC_ BK372.out 3).trans rfl
      have hfz71_0:=kF_ BK372.out 0
      have hfz71_1:=kF_ BK372.out 1
      have hfz71_2:=kF_ BK372.out 2
      have hfz71_3:=kF_ BK372.out 3
      have hnb72:=NB359_0.out
      have hnc72:=NB0_359.out
      have hcz73_0 : w68.cell? ⟨gb359,0,none⟩ = some (.bool false):=(kC_ BK359.out 0).trans rfl
      have hcz73_1 : w68.cell? ⟨gb359,1,none⟩ = some (.slice none 0 0):=(kC_ BK359.out 1).trans rfl
      have hcz73_2 : w68.cell? ⟨gb359,2,none⟩ = some (.slice none 0 0):=(kC_ BK359.out 2).trans rfl
      have hcz73_3 : w68.cell? ⟨gb359,3,none⟩ = some (.slice none 0 0):=(kC_ BK359.out 3).trans rfl
      have hfz73_0:=kF_ BK359.out 0
      have hfz73_1:=kF_ BK359.out 1
      have hfz73_2:=kF_ BK359.out 2
      have hfz73_3:=kF_ BK359.out 3
      try go_wp2
      refine bodyPost_ret (results_cell_row rfl _ _ gb359 29 #[.bool t360,.slice Ao56 t361.length co56,.slice Ao69 y397.length co69,.slice Ao58 t367.length co58] (0,0) _ rfl (by (with_reducible repeat (first | refine kN_ ?_ _ | refine kD_ ?_ | refine kA_ ?_ _));refine kP_ (cs:=#[.bool t360,.slice Ao56 t361.length co56,.slice Ao69 y397.length co69,.slice none 0 0]) ?_ 3 _ rfl;(with_reducible repeat (first | refine kN_ ?_ _ | refine kD_ ?_ | refine kA_ ?_ _));refine kP_ (cs:=#[.bool t360,.slice Ao56 t361.length co56,.slice none 0 0,.slice none 0 0]) ?_ 2 _ rfl;(with_reducible repeat (first | refine kN_ ?_ _ | refine kD_ ?_ | refine kA_ ?_ _));refine kP_ (cs:=#[.bool t360,.slice none 0 0,.slice none 0 0,.slice none 0 0]) ?_ 1 _ rfl;(with_reducible repeat (first | refine kN_ ?_ _ | refine kD_ ?_ | refine kA_ ?_ _));refine kP_ (cs:=#[.bool false,.slice none 0 0,.slice none 0 0,.slice none 0 0]) ?_ 0 _ rfl;exact kW_ BK359) Try.underlying29 rfl (by kernel_rfl)) rfl ?_
      exact ⟨_,_,_,by first | rfl | (simp [errW_none,errW_some] <;> rfl) | (simp [*, errW_none,errW_some] <;> rfl),by (with_reducible repeat (first | apply rA_ | apply rN_ | apply rD_));exact Kd.R_mono (Kd.R_far (p:=⟨gb359,3,none⟩) (Kd.R_far (p:=⟨gb359,2,none⟩) (Kd.R_far (p:=⟨gb359,1,none⟩) (Kd.R_far (p:=⟨gb359,0,none⟩) (Kd.R_far (p:=⟨gb372,2,none⟩) (Kd.R_types (Kd.R_types HO363.out BK372.out (by decide)) BK359.out (by decide)) (fun _ hk=>hk.1.2) (.slice Ao69 y397.length co69)) (fun _ hk=>hk.2) (.bool t360)) (fun _ hk=>hk.2) (.slice Ao56 t361.length co56)) (fun _ hk=>hk.2) (.slice Ao69 y397.length co69)) (fun _ hk=>hk.2) (.slice Ao58 t367.length co58)) (fun _ hk=>hk.1.1.2),by (with_reducible repeat (first | apply rA_ | apply rN_ | apply rD_));exact Kd.R_mono (Kd.R_far (p:=⟨gb359,3,none⟩) (Kd.R_far (p:=⟨gb359,2,none⟩) (Kd.R_far (p:=⟨gb359,1,none⟩) (Kd.R_far (p:=⟨gb359,0,none⟩) (Kd.R_far (p:=⟨gb372,2,none⟩) (Kd.R_types (Kd.R_types HO399.out BK372.out (by decide)) BK359.out (by decide)) (fun _ hk=>hk.1.2) (.slice Ao69 y397.length co69)) (fun _ hk=>hk.2) (.bool t360)) (fun _ hk=>hk.2) (.slice Ao56 t361.length co56)) (fun _ hk=>hk.2) (.slice Ao69 y397.length co69)) (fun _ hk=>hk.2) (.slice Ao58 t367.length co58)) (fun _ hk=>hk.1.1.1),by (with_reducible repeat (first | apply rA_ | apply rN_ | apply rD_));exact Kd.R_mono (Kd.R_far (p:=⟨gb359,3,none⟩) (Kd.R_far (p:=⟨gb359,2,none⟩) (Kd.R_far (p:=⟨gb359,1,none⟩) (Kd.R_far (p:=⟨gb359,0,none⟩) (Kd.R_far (p:=⟨gb372,2,none⟩) (Kd.R_types (Kd.R_types HO369.out BK372.out (by decide)) BK359.out (by decide)) (fun _ hk=>hk.1.2) (.slice Ao69 y397.length co69)) (fun _ hk=>hk.2) (.bool t360)) (fun _ hk=>hk.2) (.slice Ao56 t361.length co56)) (fun _ hk=>hk.2) (.slice Ao69 y397.length co69)) (fun _ hk=>hk.2) (.slice Ao58 t367.length co58)) (fun _ hk=>trivial),by repeat first | exact J155.z HI0 | apply J155.set_1 | apply J155.set_2 | refine J155.y ?_,by have e0_:=aM_ (J155.ge HI0.out);exact bZ_ HB,by exact eZ_ HK⟩
     ·rw [if_neg c49] at H
      exact absurd H (by simp)
    ·rw [if_neg c47] at H
     exact absurd H (by simp)
   ·rw [if_neg c46] at H
    have c46b0 : (t373 == 2) = false:=beq_eq_false_iff_ne.mpr c46
    have c46b1 : (t373 != 2) = true:=bne_iff_ne.mpr c46
    by_cases c74 : t373 = 3
    ·rw [if_pos c74] at H
     have c74b0 : (t373 == 3) = true:=beq_iff_eq.mpr c74
     have c74b1 : (t373 != 3) = false:=bne_eq_false_iff_eq.mpr c74
     clear c74
     obtain ⟨y400,hy400⟩ : ∃ y_ : List Int,y_ = (([1,2,47,48] : List Int)):=⟨_,rfl⟩
     replace H : ((spec_l1Int.f s0_0 t374 t375 y400).bind fun bt403=>(if t367.length < 17592186044416 then (some (t360,t361,t364,(t367 ++ [bt403.1]),bt403.2.1,bt403.2.2)) else (none))) = some (r1,r2,r3,r4,r5,r6):=by first | (rw [hy400];with_reducible exact H) | (have H2_:=(Option.bind_some _ _).symm.trans H;rw [hy400];with_reducible exact H2_) | (have H2_:=(Option.bind_some _ _).symm.trans H;with_reducible exact H2_) | with_reducible exact H | (rw [hy400];exact H) | exact H
     have Ny400:=aM_ hy400
     clear hy400
     replace H:=oB_ H
     obtain ⟨⟨t403,t404,t405⟩,A750,H⟩:=H
     replace H : (if t367.length < 17592186044416 then (some (t360,t361,t364,(t367 ++ [t403]),t404,t405)) else (none)) = some (r1,r2,r3,r4,r5,r6):=H
     have A75:=aM_ A750
     clear A750
     by_cases c76 : t367.length < 17592186044416
     ·rw [if_pos c76] at H
      have LMc76:=aM_ c76
      clear c76
      obtain ⟨y406,hy406⟩ : ∃ y_ : List Int,y_ = (t367 ++ [t403]):=⟨_,rfl⟩
      replace H : (some (t360,t361,t364,y406,t404,t405)) = some (r1,r2,r3,r4,r5,r6):=by first | (rw [hy406];with_reducible exact H) | (have H2_:=(Option.bind_some _ _).symm.trans H;rw [hy406];with_reducible exact H2_) | (have H2_:=(Option.bind_some _ _).symm.trans H;with_reducible exact H2_) | with_reducible exact H | (rw [hy406];exact H) | exact H
      have Ny406:=aM_ hy406
      clear hy406
      simp only [Option.some.injEq,Prod.mk.injEq] at H
      obtain ⟨rfl,rfl,rfl,rfl,rfl,rfl⟩:=H
      go_enter Try.func84,Try.ntmps84
      try go_wp2_with (first | ((with_reducible refine gate_dst (N:=2) rfl ?_);refine box_event ?hg (N:=2) ?hd (cs:=#[.bool false,.slice none 0 0,.slice none 0 0,.slice none 0 0]) (t:=29) ?hr ?_;(case hd=>rfl);(case hg=>rfl);(case hr=>first | (go_simp;done) | (go_simp;rfl));intro gb359 hg w77 hbox hb;have n0_:=aM_ (J155.below (by repeat first | exact J155.z HI0 | apply J155.set_1 | apply J155.set_2 | refine J155.y ?_) hb);have n1_:=aM_ (KeepBut.trans (by exact eZ_ HK) (KeepBut.of_below hb g none) (.inl rfl));have n2_:=aM_ (bT_ (by have e0_:=aM_ (J155.ge HI0.out);exact bZ_ HB) hb);have n3_:=aM_ (hbox);have n4_:=aM_ ((by rw [hg];exact (keep_size (w:=w) (g:=g) (row:=none) (by exact eZ_ HK)) : w.heap.size ≤ gb359));have n5_:=aM_ ((Nat.le_trans HW0.out (by rw [hg];exact (keep_size (w:=w) (g:=g) (row:=none) (by exact eZ_ HK)) : w.heap.size ≤ gb359) : w0.heap.size ≤ gb359));have n6_:=aM_ ((by rw [hg];exact Nat.ne_of_lt (J155.lt (show J155 w0 _ g s0_0 s0_1 s0_2 from by repeat first | exact J155.z HI0 | apply J155.set_1 | apply J155.set_2 | refine J155.y ?_)) : g ≠ gb359));have n7_:=aM_ ((by rw [hg];exact Nat.ne_of_gt (J155.lt (show J155 w0 _ g s0_0 s0_1 s0_2 from by repeat first | exact J155.z HI0 | apply J155.set_1 | apply J155.set_2 | refine J155.y ?_)) : gb359 ≠ g));clear HI0 HK HB;have HI0:=n0_;have HK:=n1_;have HB:=n2_;have BK359:=n3_;have GW359:=n4_;have GE359:=n5_;have NB0_359:=n6_;have NB359_0:=n7_;clear n0_ n1_ n2_ n3_ n4_ n5_ n6_ n7_ hb hbox hg) | ((with_reducible refine gate_callee (f:=86) rfl ?_);refine goesL_ (some 5) rfl rfl Try.func86 (by kernel_rfl) rfl #[.pointer (some ⟨g,0,none⟩)] rfl (by (try simp only [mA_,mC_,mN_]);first | done | rfl | (simp only [lD_,lT_];rfl)) ?_;(with_reducible refine (spec_l14Draw.calls k g s0_0 s0_1 s0_2 t360 t361 t364 t367 t370 t371 w0 _ ?side1 ?side2 A2.out).mono ?_);(case side1=>repeat first | exact J155.z HI0 | apply J155.set_1 | apply J155.set_2 | refine J155.y ?_);(case side2=>have e0_:=aM_ (J155.ge HI0.out);exact bZ_ HB);rintro e w78 ⟨v362,v365,v368,rfl,ho0,ho1,ho2,hi,hb,hk⟩;refine ⟨_,rfl,?_⟩;have n0_:=aM_ (KeepBut.blk hk (g':=gb359) (o:=.cells #[.bool false,.slice none 0 0,.slice none 0 0,.slice none 0 0] 29 (0,0)) (by exact kZ_ BK359) NB359_0.out (by simp));have n1_:=aM_ (Kd.R_lower ho0 (keep_size (w:=w) (g:=g) (row:=none) (by exact eZ_ HK)));have n2_:=aM_ (Kd.R_lower ho1 (keep_size (w:=w) (g:=g) (row:=none) (by exact eZ_ HK)));have n3_:=aM_ (Kd.R_lower ho2 (keep_size (w:=w) (g:=g) (row:=none) (by exact eZ_ HK)));have n4_:=aM_ (KeepBut.trans (by exact eZ_ HK) hk (.inl rfl));have n5_:=aM_ (hb);have n6_:=aM_ (hi);clear BK359 HK HB HI0;have BK359:=n0_;have HO363:=n1_;have HO366:=n2_;have HO369:=n3_;have HK:=n4_;have HB:=n5_;have HI0:=n6_;clear n0_ n1_ n2_ n3_ n4_ n5_ n6_ hb hk hi ho0 ho1 ho2) | ((with_reducible refine gate_dst (N:=3) rfl ?_);refine box_event ?hg (N:=3) ?hd (cs:=#[.bool false,.slice none 0 0,.slice none 0 0,.slice none 0 0]) (t:=29) ?hr ?_;(case hd=>rfl);(case hg=>rfl);(case hr=>first | (go_simp;done) | (go_simp;rfl));intro gb372 hg w79 hbox hb;have n0_:=aM_ (Kd.R_below (by exact rZ_ HO363) hb);have n1_:=aM_ (Kd.R_below (by exact rZ_ HO366) hb);have n2_:=aM_ (Kd.R_below (by exact rZ_ HO369) hb);have n3_:=aM_ (J155.below (by repeat first | exact J155.z HI0 | apply J155.set_1 | apply J155.set_2 | refine J155.y ?_) hb);have n4_:=aM_ (blk_below (g:=gb359) (o:=.cells #[.bool false,.slice none 0 0,.slice none 0 0,.slice none 0 0] 29 (0,0)) (by exact kZ_ BK359) hb);have n5_:=aM_ (KeepBut.trans (by exact eZ_ HK) (KeepBut.of_below hb g none) (.inl rfl));have n6_:=aM_ (bT_ (by have e0_:=aM_ (J155.ge HI0.out);exact bZ_ HB) hb);have n7_:=aM_ (hbox);have n8_:=aM_ ((by rw [hg];exact (keep_size (w:=w) (g:=g) (row:=none) (by exact eZ_ HK)) : w.heap.size ≤ gb372));have n9_:=aM_ ((Nat.le_trans HW0.out (by rw [hg];exact (keep_size (w:=w) (g:=g) (row:=none) (by exact eZ_ HK)) : w.heap.size ≤ gb372) : w0.heap.size ≤ gb372));have n10_:=aM_ ((by rw [hg];exact Nat.ne_of_lt (blk_lt (g:=gb359) (o:=.cells #[.bool false,.slice none 0 0,.slice none 0 0,.slice none 0 0] 29 (0,0)) (by exact kZ_ BK359)) : gb359 ≠ gb372));have n11_:=aM_ ((by rw [hg];exact Nat.ne_of_gt (blk_lt (g:=gb359) (o:=.cells #[.bool false,.slice none 0 0,.slice none 0 0,.slice none 0 0] 29 (0,0)) (by exact kZ_ BK359)) : gb372 ≠ gb359));have n12_:=aM_ ((by rw [hg];exact Nat.ne_of_lt (J155.lt (show J155 w0 _ g s0_0 t370 t371 from by repeat first | exact J155.z HI0 | apply J155.set_1 | apply J155.set_2 | refine J155.y ?_)) : g ≠ gb372));have n13_:=aM_ ((by rw [hg];exact Nat.ne_of_gt (J155.lt (show J155 w0 _ g s0_0 t370 t371 from by repeat first | exact J155.z HI0 | apply J155.set_1 | apply J155.set_2 | refine J155.y ?_)) : gb372 ≠ g));clear HO363 HO366 HO369 HI0 BK359 HK HB;have HO363:=n0_;have HO366:=n1_;have HO369:=n2_;have HI0:=n3_;have BK359:=n4_;have HK:=n5_;have HB:=n6_;have BK372:=n7_;have GW372:=n8_;have GE372:=n9_;have NB359_372:=n10_;have NB372_359:=n11_;have NB0_372:=n12_;have NB372_0:=n13_;clear n0_ n1_ n2_ n3_ n4_ n5_ n6_ n7_ n8_ n9_ n10_ n11_ n12_ n13_ hb hbox hg;have hnb80:=NB372_359.out;have hnc80:=NB359_372.out;have hnb81:=NB372_0.out;have hnc81:=NB0_372.out;have hcz82_0 : w79.cell? ⟨gb372,0,none⟩ = some (.bool false):=(kC_ BK372.out 0).trans rfl;have hcz82_1 : w79.cell? ⟨gb372,1,none⟩ = some (.slice none 0 0):=(kC_ BK372.out 1).trans rfl;have hcz82_2 : w79.cell? ⟨gb372,2,none⟩ = some (.slice none 0 0):=(kC_ BK372.out 2).trans rfl;have hcz82_3 : w79.cell? ⟨gb372,3,none⟩ = some (.slice none 0 0):=(kC_ BK372.out 3).trans rfl;have hfz82_0:=kF_ BK372.out 0;have hfz82_1:=kF_ BK372.out 1;have hfz82_2:=kF_ BK372.out 2;have hfz82_3:=kF_ BK372.out 3;obtain ⟨Ao83,co83,eo83⟩:=Kd.R_slice HO363.out;subst eo83;obtain ⟨Ao84,co84,eo84⟩:=Kd.R_slice HO366.out;subst eo84;obtain ⟨Ao85,co85,eo85⟩:=Kd.R_slice HO369.out;subst eo85) | ((with_reducible refine gate_callee (f:=125) rfl ?_);refine goesL_ (some 7) rfl rfl Try.func125 (by kernel_rfl) rfl #[.pointer (some ⟨g,0,none⟩),.int .i64 12] rfl (by (try simp only [mA_,mC_,mN_]);first | done | rfl | (simp only [lD_,lT_];rfl)) ?_;(with_reducible refine (spec_l1Below.calls g s0_0 t370 t371 12 t373 t374 t375 w0 _ ?side1 ?side2 A3.out).mono ?_);(case side1=>repeat first | exact J155.z HI0 | apply J155.set_1 | apply J155.set_2 | refine J155.y ?_);(case side2=>have e0_:=aM_ (J155.ge HI0.out);exact bZ_ HB);rintro e w86 ⟨rfl,hi,hb,hk⟩;refine ⟨_,rfl,?_⟩;have n0_:=aM_ (KeepBut.blk hk (g':=gb359) (o:=.cells #[.bool false,.slice none 0 0,.slice none 0 0,.slice none 0 0] 29 (0,0)) (by exact kW_ BK359) NB359_0.out (by simp));have n1_:=aM_ (Kd.R_mono (Kd.R_keep (J155.apart (show J155 w0 _ g s0_0 t370 t371 from by repeat first | exact J155.z HI0 | apply J155.set_1 | apply J155.set_2 | refine J155.y ?_) (by (with_reducible repeat (first | apply rA_ | apply rN_ | apply rD_));exact (Kd.R_mono (Kd.R_far (p:=⟨gb372,3,none⟩) (Kd.R_far (p:=⟨gb372,2,none⟩) (Kd.R_far (p:=⟨gb372,1,none⟩) (Kd.R_far (p:=⟨gb372,0,none⟩) (Kd.R_types HO363.out BK372.out (by decide)) (fun _ hk=>hk.2) (.bool t360)) (fun _ hk=>hk.2) (.slice Ao83 t361.length co83)) (fun _ hk=>hk.2) (.slice Ao84 t364.length co84)) (fun _ hk=>hk.2) (.slice Ao85 t367.length co85)) (fun _ h_=>h_.1))) (by decide)) hk (fun _ h=>h.2)) (fun _ h=>h.1));have n2_:=aM_ (Kd.R_mono (Kd.R_keep (J155.apart (show J155 w0 _ g s0_0 t370 t371 from by repeat first | exact J155.z HI0 | apply J155.set_1 | apply J155.set_2 | refine J155.y ?_) (by (with_reducible repeat (first | apply rA_ | apply rN_ | apply rD_));exact (Kd.R_mono (Kd.R_far (p:=⟨gb372,3,none⟩) (Kd.R_far (p:=⟨gb372,2,none⟩) (Kd.R_far (p:=⟨gb372,1,none⟩) (Kd.R_far (p:=⟨gb372,0,none⟩) (Kd.R_types HO366.out BK372.out (by decide)) (fun _ hk=>hk.2) (.bool t360)) (fun _ hk=>hk.2) (.slice Ao83 t361.length co83)) (fun _ hk=>hk.2) (.slice Ao84 t364.length co84)) (fun _ hk=>hk.2) (.slice Ao85 t367.length co85)) (fun _ h_=>h_.1))) (by decide)) hk (fun _ h=>h.2)) (fun _ h=>h.1));have n3_:=aM_ (Kd.R_mono (Kd.R_keep (J155.apart (show J155 w0 _ g s0_0 t370 t371 from by repeat first | exact J155.z HI0 | apply J155.set_1 | apply J155.set_2 | refine J155.y ?_) (by (with_reducible repeat (first | apply rA_ | apply rN_ | apply rD_));exact (Kd.R_mono (Kd.R_far (p:=⟨gb372,3,none⟩) (Kd.R_far (p:=⟨gb372,2,none⟩) (Kd.R_far (p:=⟨gb372,1,none⟩) (Kd.R_far (p:=⟨gb372,0,none⟩) (Kd.R_types HO369.out BK372.out (by decide)) (fun _ hk=>hk.2) (.bool t360)) (fun _ hk=>hk.2) (.slice Ao83 t361.length co83)) (fun _ hk=>hk.2) (.slice Ao84 t364.length co84)) (fun _ hk=>hk.2) (.slice Ao85 t367.length co85)) (fun _ h_=>h_.1))) (by decide)) hk (fun _ h=>h.2)) (fun _ h=>h.1));have n4_:=aM_ (KeepBut.blk hk (g':=gb372) (o:=.cells #[.bool t360,.slice Ao83 t361.length co83,.slice Ao84 t364.length co84,.slice Ao85 t367.length co85] 29 (0,0)) (by (with_reducible repeat (first | refine kN_ ?_ _ | refine kD_ ?_ | refine kA_ ?_ _));refine kP_ (cs:=#[.bool t360,.slice Ao83 t361.length co83,.slice Ao84 t364.length co84,.slice none 0 0]) ?_ 3 _ rfl;(with_reducible repeat (first | refine kN_ ?_ _ | refine kD_ ?_ | refine kA_ ?_ _));refine kP_ (cs:=#[.bool t360,.slice Ao83 t361.length co83,.slice none 0 0,.slice none 0 0]) ?_ 2 _ rfl;(with_reducible repeat (first | refine kN_ ?_ _ | refine kD_ ?_ | refine kA_ ?_ _));refine kP_ (cs:=#[.bool t360,.slice none 0 0,.slice none 0 0,.slice none 0 0]) ?_ 1 _ rfl;(with_reducible repeat (first | refine kN_ ?_ _ | refine kD_ ?_ | refine kA_ ?_ _));refine kP_ (cs:=#[.bool false,.slice none 0 0,.slice none 0 0,.slice none 0 0]) ?_ 0 _ rfl;exact kZ_ BK372) NB372_0.out (by simp));have n5_:=aM_ (KeepBut.trans (by exact eZ_ HK) hk (.inl rfl));have n6_:=aM_ (hb);have n7_:=aM_ (hi);clear BK359 HO363 HO366 HO369 BK372 HK HB HI0;have BK359:=n0_;have HO363:=n1_;have HO366:=n2_;have HO369:=n3_;have BK372:=n4_;have HK:=n5_;have HB:=n6_;have HI0:=n7_;clear n0_ n1_ n2_ n3_ n4_ n5_ n6_ n7_ hb hk hi))
      have n0_:=aM_ (rD_ HO363.out)
      have n1_:=aM_ (rD_ HO366.out)
      have n2_:=aM_ (rD_ HO369.out)
      have n3_:=aM_ (kD_ BK359.out)
      have n4_:=aM_ (kD_ BK372.out)
      have n5_:=aM_ (J155.drew HI0.out)
      have n6_:=aM_ (eD_ HK.out)
      have n7_:=aM_ (bD_ HB.out)
      clear HO363 HO366 HO369 BK359 BK372 HI0 HK HB
      have HO363:=n0_
      have HO366:=n1_
      have HO369:=n2_
      have BK359:=n3_
      have BK372:=n4_
      have HI0:=n5_
      have HK:=n6_
      have HB:=n7_
      clear n0_ n1_ n2_ n3_ n4_ n5_ n6_ n7_
      refine start_ (n:=9) (S:=fun w'=>w'.cell? ⟨gb372,0,none⟩ = some (.bool t360) ∧ w'.cell? ⟨gb372,1,none⟩ = some (.slice Ao83 t361.length co83) ∧ w'.cell? ⟨gb372,2,none⟩ = some (.slice Ao84 t364.length co84) ∧ w'.cell? ⟨gb372,3,none⟩ = some (.slice Ao85 t367.length co85)) (ds:=[8]) (tb_ 0 9) (by kernel_rfl) rfl rfl ⟨(kC_ BK372.out 0).trans rfl,(kC_ BK372.out 1).trans rfl,(kC_ BK372.out 2).trans rfl,(kC_ BK372.out 3).trans rfl⟩ (fun hHeld=>?_);refine with_tabW spec_l14Any.tab10 spec_l14Any.bits10 (fun HT_ HW_=>?_)
      generalize w86.drew = w87 at HO363 HO366 HO369 BK359 BK372 HI0 HK HB hHeld ⊢
      refine pure_ (i:=0) (N:=some 40) (v:=?_) (a':=?_) (tb_ 1 8) rfl rfl (any_of HT_.out (by kernel_rfl)) (fun _ _ _ h=>h) (Or.inl ⟨by rfl,?_⟩) ?_ ?_
      rotate_left
      ·intro w'
       go_simp
       with_reducible rfl
      rotate_left
      ·simp only [Act.put,sI_,sZ_,sS_,i64_w,i32_w]
       rfl
      refine pure_ (i:=2) (N:=some 42) (v:=?_) (a':=?_) #[true,false,true,false,false,false,false,false,false] rfl rfl (any_of HT_.out (by kernel_rfl)) (fun _ _ _ h=>h) (Or.inl ⟨by rfl,?_⟩) ?_ ?_
      rotate_left
      ·intro w'
       go_simp
       with_reducible rfl
      rotate_left
      ·simp only [Act.put,sI_,sZ_,sS_,i64_w,i32_w]
       rfl
      refine take_ (i:=1) (N:=some 41) (v:=?_) (a':=?_) (tb_ 3 6) rfl rfl (take_ofW HT_.out HW_.out (by kernel_rfl)) (fun _ _ _ h=>h) (Or.inl ⟨by rfl,?_⟩) hHeld ?_ ?_
      rotate_left
      ·rintro w' ⟨s0,s1,s2,s3⟩
       go_simp
       with_reducible rfl
      rotate_left
      ·simp only [Act.put,sI_,sZ_,sS_,i64_w,i32_w]
       rfl
      refine one_ (i:=3) (N:=some 43) (tb_ 4 5) rfl rfl (one_of HT_.out (by kernel_rfl)) (by decide) (fun K hK=>?_)
      refine Kd.R_lit_step (Kd.int .i64) _ 3 ?hg (N:=43) ?hd (xs:=([1,2,47,48] : List Int)) (inner:=[.int .i64 1,.int .i64 2,.int .i64 47,.int .i64 48]) (ok:=fun _=>True) (okp:=fun _=>True) ?hr ?hp (fun _ hk=>hk) trivial (Below.refl _ _) (Nat.le_refl _) (by simp) ?_;(case hd=>rfl);(case hg=>rfl);(case hr=>first | (go_simp;done) | (go_simp;rfl));(case hp=>exact (Reps.one (show Kd.M (Kd.int .i64) _ _ _ 1 [.int .i64 1] from rfl) (Reps.one (show Kd.M (Kd.int .i64) _ _ _ 2 [.int .i64 2] from rfl) (Reps.one (show Kd.M (Kd.int .i64) _ _ _ 47 [.int .i64 47] from rfl) (Reps.one (show Kd.M (Kd.int .i64) _ _ _ 48 [.int .i64 48] from rfl) (Reps.none _ _))))))
      intro v401 w88 ho89 hb hg_ hnew_
      clear hg_ hnew_
      (first | rw [← Ny400.out] at ho89 | (simp only [Int.reduceToNat] at ho89;rw [← Ny400.out] at ho89))
      have n0_:=aM_ (Kd.R_below (by exact rZ_ HO363) hb)
      have n1_:=aM_ (Kd.R_below (by exact rZ_ HO366) hb)
      have n2_:=aM_ (Kd.R_elder' (by exact rZ_ HO369) (Kd.R_base ho89) hb)
      have n3_:=aM_ (Kd.R_lower (Kd.R_new' ho89 (Kd.R_lt (by exact rZ_ HO369))) (keep_size (w:=w) (g:=g) (row:=none) (by exact eZ_ HK)))
      have n4_:=aM_ (J155.below (by repeat first | exact J155.z HI0 | apply J155.set_1 | apply J155.set_2 | refine J155.y ?_) hb)
      have n5_:=aM_ (blk_below (g:=gb359) (o:=.cells #[.bool false,.slice none 0 0,.slice none 0 0,.slice none 0 0] 29 (0,0)) (by exact kZ_ BK359) hb)
      have n6_:=aM_ (blk_below (g:=gb372) (o:=.cells #[.bool t360,.slice Ao83 t361.length co83,.slice Ao84 t364.length co84,.slice Ao85 t367.length co85] 29 (0,0)) (by exact kZ_ BK372) hb)
      have n7_:=aM_ (KeepBut.trans (by exact eZ_ HK) (KeepBut.of_below hb g none) (.inl rfl))
      have n8_:=aM_ (bT_ (by have e0_:=aM_ (J155.ge HI0.out);exact bZ_ HB) hb)
      clear HO363 HO366 HO369 HI0 BK359 BK372 HK HB
      have HO363:=n0_
      have HO366:=n1_
      have HO369:=n2_
      have HO402:=n3_
      have HI0:=n4_
      have BK359:=n5_
      have BK372:=n6_
      have HK:=n7_
      have HB:=n8_
      clear n0_ n1_ n2_ n3_ n4_ n5_ n6_ n7_ n8_ hb ho89
      obtain ⟨Ao90,co90,eo90⟩:=Kd.R_slice HO402.out
      (first | subst eo90 | (injection eo90 with f1_ f2_ f3_;have f4_:=f1_.symm;have f5_:=f3_.symm;clear f1_ f2_ f3_;subst f4_;subst f5_))
      refine hK.out _ _ ⟨(kC_ BK372.out 0).trans rfl,(kC_ BK372.out 1).trans rfl,(kC_ BK372.out 2).trans rfl,(kC_ BK372.out 3).trans rfl⟩ (fun hHeld=>?_)
      clear hK K
      refine norm_ (a':=?_) ?_ ?_
      rotate_left
      ·show Act.put _ (some 43) _ = _
       simp only [Act.put,sI_,sZ_,sS_,i64_w,i32_w]
       rfl
      refine one_ (i:=4) (N:=some 44) (tb_ 5 4) rfl rfl (one_of HT_.out (by kernel_rfl)) (by decide) (fun K hK=>?_)
      refine goes_ Try.func145 (by kernel_rfl) rfl #[.pointer (some ⟨g,0,none⟩),.slice Ao90 y400.length co90] (by rfl) rfl rfl (by (try simp only [mA_,mC_,mN_]);first | done | rfl | (simp only [lD_,lT_];rfl)) ?_
      with_reducible refine (spec_l1Int.calls g s0_0 t374 t375 _ _ y400 t403 t404 t405 w0 _ ?side1 ?side2 ?side3 ?side4 ?side5 A75.out).mono ?_
      (case side1=>repeat first | exact J155.z HI0 | apply J155.set_1 | apply J155.set_2 | refine J155.y ?_)
      (case side2=>have e0_:=aM_ (J155.ge HI0.out);exact bZ_ HB)
      (case side3=>repeat (first | exact (Kd.R_reads' HO402.out).2.2 | (with_reducible refine cA_ ?_ _) | (with_reducible refine cN_ ?_ _) | (with_reducible refine cD_ ?_)))
      (case side4=>exact (Kd.R_reads' HO402.out).2.1)
      (case side5=>exact far_slice (J155.own_ne HI0.out HO402.out (by decide)))
      rintro e w91 ⟨rfl,hi,hb,hk⟩
      refine ⟨_,rfl,?_⟩
      have n0_:=aM_ (KeepBut.blk hk (g':=gb359) (o:=.cells #[.bool false,.slice none 0 0,.slice none 0 0,.slice none 0 0] 29 (0,0)) (by exact kZ_ BK359) NB359_0.out (by simp))
      have n1_:=aM_ (Kd.R_mono (Kd.R_keep (J155.apart (show J155 w0 _ g s0_0 t374 t375 from by repeat first | exact J155.z HI0 | apply J155.set_1 | apply J155.set_2 | refine J155.y ?_) (by exact rZ_ HO363) (by decide)) hk (fun _ h=>h.2)) (fun _ h=>h.1))
      have n2_:=aM_ (Kd.R_mono (Kd.R_keep (J155.apart (show J155 w0 _ g s0_0 t374 t375 from by repeat first | exact J155.z HI0 | apply J155.set_1 | apply J155.set_2 | refine J155.y ?_) (by exact rZ_ HO366) (by decide)) hk (fun _ h=>h.2)) (fun _ h=>h.1))
      have n3_:=aM_ (Kd.R_mono (Kd.R_keep (J155.apart (show J155 w0 _ g s0_0 t374 t375 from by repeat first | exact J155.z HI0 | apply J155.set_1 | apply J155.set_2 | refine J155.y ?_) (by exact rZ_ HO369) (by decide)) hk (fun _ h=>h.2)) (fun _ h=>h.1))
      have n4_:=aM_ (KeepBut.blk hk (g':=gb372) (o:=.cells #[.bool t360,.slice Ao83 t361.length co83,.slice Ao84 t364.length co84,.slice Ao85 t367.length co85] 29 (0,0)) (by exact kZ_ BK372) NB372_0.out (by simp))
      have n5_:=aM_ (Kd.R_mono (Kd.R_keep (J155.apart (show J155 w0 _ g s0_0 t374 t375 from by repeat first | exact J155.z HI0 | apply J155.set_1 | apply J155.set_2 | refine J155.y ?_) (by exact rZ_ HO402) (by decide)) hk (fun _ h=>h.2)) (fun _ h=>h.1))
      have n6_:=aM_ (KeepBut.trans (by exact eZ_ HK) hk (.inl rfl))
      have n7_:=aM_ (hb)
      have n8_:=aM_ (hi)
      clear BK359 HO363 HO366 HO369 BK372 HO402 HK HB HI0
      have BK359:=n0_
      have HO363:=n1_
      have HO366:=n2_
      have HO369:=n3_
      have BK372:=n4_
      have HO402:=n5_
      have HK:=n6_
      have HB:=n7_
      have HI0:=n8_
      clear n0_ n1_ n2_ n3_ n4_ n5_ n6_ n7_ n8_ hb
      skip
      clear hk hi
      refine hK.out _ _ ⟨(kC_ BK372.out 0).trans rfl,(kC_ BK372.out 1).trans rfl,(kC_ BK372.out 2).trans rfl,(kC_ BK372.out 3).trans rfl⟩ (fun hHeld=>?_)
      clear hK K
      refine norm_ (a':=?_) ?_ ?_
      rotate_left
      ·show Act.put _ (some 44) _ = _
       simp only [Act.put,sI_,sZ_,sS_,i64_w,i32_w]
       rfl
      refine one_ (i:=5) (N:=some 45) (tb_ 6 3) rfl rfl (one_of HT_.out (by kernel_rfl)) (by decide) (fun K hK=>?_)
      refine value_ (w1:=?_) (v:=?_) (by rfl) rfl ?_ ?_
      rotate_left 2
      ·go_simp
       constructor
       ·rfl
       ·rfl
      refine hK.out _ _ ⟨(kC_ (kA_ BK372.out _) 0).trans rfl,(kC_ (kA_ BK372.out _) 1).trans rfl,(kC_ (kA_ BK372.out _) 2).trans rfl,(kC_ (kA_ BK372.out _) 3).trans rfl⟩ (fun hHeld=>?_)
      clear hK K
      refine norm_ (a':=?_) ?_ ?_
      rotate_left
      ·show Act.put _ (some 45) _ = _
       simp only [Act.put,sI_,sZ_,sS_,i64_w,i32_w]
       rfl
      refine one_ (i:=6) (N:=some 46) (tb_ 7 2) rfl rfl (one_of HT_.out (by kernel_rfl)) (by decide) (fun K hK=>?_)
      refine Kd.R_append_step (Kd.int .i64) w.heap.size (by rfl) (.tmp 41) (.tmp 45) 23 3 (.int .i64 0) 8 rfl Try.underlying23 info3 rfl (by decide) (by omega) (.slice Ao85 t367.length co85) t367 t403 [.int .i64 t403] (fun k_=>some k_ ≠ (.slice Ao90 y400.length co90 : Value).ownBlock) (fun _=>False) rfl rfl ?aP (fun _ hk=>hk.elim) ?aF ?aO (Below.refl _ _) ?aS ?aL ?_
      (case aP=>exact rfl)
      (case aF=>exact (fun k_ hk=>Kd.fresh' (Kd.R_lt (by exact rZ_ HO402)) k_ hk))
      (case aO=>exact (by (with_reducible repeat (first | apply rA_ | apply rN_ | apply rD_));exact Kd.R_mono HO369.out (fun _ hk=>hk.2)))
      (case aS=>exact (keep_size (w:=w) (g:=g) (row:=none) (by exact eZ_ HK)))
      (case aL=>have:=LMc76.out;omega)
      intro v407 w92 ho hb hg hat
      rw [← Ny406.out] at ho
      have n0_:=aM_ (J155.grown (by repeat first | exact J155.z HI0 | apply J155.set_1 | apply J155.set_2 | refine J155.y ?_) hg (J155.own_ne HI0.out HO369.out (by decide)))
      have n1_:=aM_ (blk_grown (g:=gb359) (o:=.cells #[.bool false,.slice none 0 0,.slice none 0 0,.slice none 0 0] 29 (0,0)) (by exact kZ_ BK359) hg (Kd.R_ne HO369.out BK359.out (by decide)))
      have n2_:=aM_ (Kd.R_over' (by exact rZ_ HO363) (Kd.R_typed (by exact rZ_ HO369)) (by decide) hg)
      have n3_:=aM_ (Kd.R_over' (by exact rZ_ HO366) (Kd.R_typed (by exact rZ_ HO369)) (by decide) hg)
      have n4_:=aM_ (blk_grown (g:=gb372) (o:=.cells #[.bool t360,.slice Ao83 t361.length co83,.slice Ao84 t364.length co84,.slice Ao85 t367.length co85] 29 (0,0)) (by exact kZ_ BK372) hg (Kd.R_ne HO369.out BK372.out (by decide)))
      have n5_:=aM_ (Kd.R_after (ok:=(fun _=>True)) (by exact rZ_ HO402) hg hat)
      have n6_:=aM_ (below_weaken (by have e0_:=aM_ (J155.ge HI0.out);exact bZ_ HB) HL.out hb)
      have n7_:=aM_ (KeepBut.trans (by exact eZ_ HK) (KeepBut.of_grown hg g) (Kd.R_base2 HO369.out))
      have n8_:=aM_ (ho)
      clear HI0 BK359 HO363 HO366 BK372 HO402 HB HK HO369
      have HI0:=n0_
      have BK359:=n1_
      have HO363:=n2_
      have HO366:=n3_
      have BK372:=n4_
      have HO402:=n5_
      have HB:=n6_
      have HK:=n7_
      have HO408:=n8_
      clear n0_ n1_ n2_ n3_ n4_ n5_ n6_ n7_ n8_ ho hb hg hat
      obtain ⟨Ao93,co93,eo93⟩:=Kd.R_slice HO408.out
      (first | subst eo93 | (injection eo93 with f1_ f2_ f3_;have f4_:=f1_.symm;have f5_:=f3_.symm;clear f1_ f2_ f3_;subst f4_;subst f5_))
      refine hK.out _ _ ⟨(kC_ BK372.out 0).trans rfl,(kC_ BK372.out 1).trans rfl,(kC_ BK372.out 2).trans rfl,(kC_ BK372.out 3).trans rfl⟩ (fun hHeld=>?_)
      clear hK K
      refine norm_ (a':=?_) ?_ ?_
      rotate_left
      ·show Act.put _ (some 46) _ = _
       simp only [Act.put,sI_,sZ_,sS_,i64_w,i32_w]
       rfl
      refine pure_ (i:=7) (N:=some 47) (v:=?_) (a':=?_) (tb_ 8 1) rfl rfl (any_of HT_.out (by kernel_rfl)) (fun _ _ _ h=>h) (Or.inl ⟨by rfl,?_⟩) ?_ ?_
      rotate_left
      ·intro w'
       go_simp
       with_reducible rfl
      rotate_left
      ·simp only [Act.put,sI_,sZ_,sS_,i64_w,i32_w]
       rfl
      refine last_ (i:=8) (N:=none) (tb_ 9 0) rfl rfl (one_of HT_.out (by kernel_rfl)) (by decide) (fun K hK=>?_)
      have hs94 : w92.cell? ⟨gb372,3,none⟩ = some (.slice Ao85 t367.length co85):=(kC_ BK372.out 3).trans rfl
      have hfs94:=kF_ BK372.out 3
      have hns94_0:=NB359_372.out
      have hms94_0:=NB372_359.out
      refine skip_ (w1:=?_) (by rfl) rfl ?_ ?_
      rotate_left
      ·go_simp
       rfl
      refine hK.out _ _ ?_
      clear hK K
      refine done_ (done_of HT_.out (by kernel_rfl)) ?_
      have hcz95_0 : w92.cell? ⟨gb372,0,none⟩ = some (.bool t360):=(kC_ BK372.out 0).trans rfl
      have hcz95_1 : w92.cell? ⟨gb372,1,none⟩ = some (.slice Ao83 t361.length co83):=(kC_ BK372.out 1).trans rfl
      have hcz95_2 : w92.cell? ⟨gb372,2,none⟩ = some (.slice Ao84 t364.length co84):=(kC_ BK372.out 2).trans rfl
      have hcz95_3 : w92.cell? ⟨gb372,3,none⟩ = some (.slice Ao85 t367.length co85):=(kC_ BK372.out 3).trans rfl
      have hfz95_0:=kF_ BK372.out 0
      have hfz95_1:=kF_ BK372.out 1
      have hfz95_2:=kF_ BK372.out 2
      have hfz95_3:=kF_ BK372.out 3
      have hnb96:=NB359_0.out
      have hnc96:=NB0_359.out
      have hcz97_0 : w92.cell? ⟨gb359,0,none⟩ = some (.bool false):=(kC_ BK359.out 0).trans rfl
      have hcz97_1 : w92.cell? ⟨gb359,1,none⟩ = some (.slice none 0 0):=(kC_ BK359.out 1).trans rfl
      have hcz97_2 : w92.cell? ⟨gb359,2,none⟩ = some (.slice none 0 0):=(kC_ BK359.out 2).trans rfl
      have hcz97_3 : w92.cell? ⟨gb359,3,none⟩ = some (.slice none 0 0):=(kC_ BK359.out 3).trans rfl
      have hfz97_0:=kF_ BK359.out 0
      have hfz97_1:=kF_ BK359.out 1
      have hfz97_2:=kF_ BK359.out 2
      have hfz97_3:=kF_ BK359.out 3
      try go_wp2
      refine bodyPost_ret (results_cell_row rfl _ _ gb359 29 #[.bool t360,.slice Ao83 t361.length co83,.slice Ao84 t364.length co84,.slice Ao93 y406.length co93] (0,0) _ rfl (by (with_reducible repeat (first | refine kN_ ?_ _ | refine kD_ ?_ | refine kA_ ?_ _));refine kP_ (cs:=#[.bool t360,.slice Ao83 t361.length co83,.slice Ao84 t364.length co84,.slice none 0 0]) ?_ 3 _ rfl;(with_reducible repeat (first | refine kN_ ?_ _ | refine kD_ ?_ | refine kA_ ?_ _));refine kP_ (cs:=#[.bool t360,.slice Ao83 t361.length co83,.slice none 0 0,.slice none 0 0]) ?_ 2 _ rfl;(with_reducible repeat (first | refine kN_ ?_ _ | refine kD_ ?_ | refine kA_ ?_ _));refine kP_ (cs:=#[.bool t360,.slice none 0 0,.slice none 0 0,.slice none 0 0]) ?_ 1 _ rfl;(with_reducible repeat (first | refine kN_ ?_ _ | refine kD_ ?_ | refine kA_ ?_ _));refine kP_ (cs:=#[.bool false,.slice none 0 0,.slice none 0 0,.slice none 0 0]) ?_ 0 _ rfl;exact kW_ BK359) Try.underlying29 rfl (by kernel_rfl)) rfl ?_
      exact ⟨_,_,_,by first | rfl | (simp [errW_none,errW_some] <;> rfl) | (simp [*, errW_none,errW_some] <;> rfl),by (with_reducible repeat (first | apply rA_ | apply rN_ | apply rD_));exact Kd.R_mono (Kd.R_far (p:=⟨gb359,3,none⟩) (Kd.R_far (p:=⟨gb359,2,none⟩) (Kd.R_far (p:=⟨gb359,1,none⟩) (Kd.R_far (p:=⟨gb359,0,none⟩) (Kd.R_far (p:=⟨gb372,3,none⟩) (Kd.R_types (Kd.R_types HO363.out BK372.out (by decide)) BK359.out (by decide)) (fun _ hk=>hk.1.2) (.slice Ao93 y406.length co93)) (fun _ hk=>hk.2) (.bool t360)) (fun _ hk=>hk.2) (.slice Ao83 t361.length co83)) (fun _ hk=>hk.2) (.slice Ao84 t364.length co84)) (fun _ hk=>hk.2) (.slice Ao93 y406.length co93)) (fun _ hk=>hk.1.1),by (with_reducible repeat (first | apply rA_ | apply rN_ | apply rD_));exact Kd.R_mono (Kd.R_far (p:=⟨gb359,3,none⟩) (Kd.R_far (p:=⟨gb359,2,none⟩) (Kd.R_far (p:=⟨gb359,1,none⟩) (Kd.R_far (p:=⟨gb359,0,none⟩) (Kd.R_far (p:=⟨gb372,3,none⟩) (Kd.R_types (Kd.R_types HO366.out BK372.out (by decide)) BK359.out (by decide)) (fun _ hk=>hk.1.2) (.slice Ao93 y406.length co93)) (fun _ hk=>hk.2) (.bool t360)) (fun _ hk=>hk.2) (.slice Ao83 t361.length co83)) (fun _ hk=>hk.2) (.slice Ao84 t364.length co84)) (fun _ hk=>hk.2) (.slice Ao93 y406.length co93)) (fun _ hk=>hk.1.1),by (with_reducible repeat (first | apply rA_ | apply rN_ | apply rD_));exact Kd.R_mono (Kd.R_far (p:=⟨gb359,3,none⟩) (Kd.R_far (p:=⟨gb359,2,none⟩) (Kd.R_far (p:=⟨gb359,1,none⟩) (Kd.R_far (p:=⟨gb359,0,none⟩) (Kd.R_far (p:=⟨gb372,3,none⟩) (Kd.R_types (Kd.R_types HO408.out BK372.out (by decide)) BK359.out (by decide)) (fun _ hk=>hk.1.2) (.slice Ao93 y406.length co93)) (fun _ hk=>hk.2) (.bool t360)) (fun _ hk=>hk.2) (.slice Ao83 t361.length co83)) (fun _ hk=>hk.2) (.slice Ao84 t364.length co84)) (fun _ hk=>hk.2) (.slice Ao93 y406.length co93)) (fun _ hk=>trivial),by repeat first | exact J155.z HI0 | apply J155.set_1 | apply J155.set_2 | refine J155.y ?_,by have e0_:=aM_ (J155.ge HI0.out);exact bZ_ HB,by exact eZ_ HK⟩
     ·rw [if_neg c76] at H
      exact absurd H (by simp)
    ·rw [if_neg c74] at H
     have c74b0 : (t373 == 3) = false:=beq_eq_false_iff_ne.mpr c74
     have c74b1 : (t373 != 3) = true:=bne_iff_ne.mpr c74
     simp only [Option.some.injEq,Prod.mk.injEq] at H
     obtain ⟨rfl,rfl,rfl,rfl,rfl,rfl⟩:=H
     go_enter Try.func84,Try.ntmps84
     go_wp2_with (first | ((with_reducible refine gate_dst (N:=2) rfl ?_);refine box_event ?hg (N:=2) ?hd (cs:=#[.bool false,.slice none 0 0,.slice none 0 0,.slice none 0 0]) (t:=29) ?hr ?_;(case hd=>rfl);(case hg=>rfl);(case hr=>first | (go_simp;done) | (go_simp;rfl));intro gb359 hg w98 hbox hb;have n0_:=aM_ (J155.below (by repeat first | exact J155.z HI0 | apply J155.set_1 | apply J155.set_2 | refine J155.y ?_) hb);have n1_:=aM_ (KeepBut.trans (by exact eZ_ HK) (KeepBut.of_below hb g none) (.inl rfl));have n2_:=aM_ (bT_ (by have e0_:=aM_ (J155.ge HI0.out);exact bZ_ HB) hb);have n3_:=aM_ (hbox);have n4_:=aM_ ((by rw [hg];exact (keep_size (w:=w) (g:=g) (row:=none) (by exact eZ_ HK)) : w.heap.size ≤ gb359));have n5_:=aM_ ((Nat.le_trans HW0.out (by rw [hg];exact (keep_size (w:=w) (g:=g) (row:=none) (by exact eZ_ HK)) : w.heap.size ≤ gb359) : w0.heap.size ≤ gb359));have n6_:=aM_ ((by rw [hg];exact Nat.ne_of_lt (J155.lt (show J155 w0 _ g s0_0 s0_1 s0_2 from by repeat first | exact J155.z HI0 | apply J155.set_1 | apply J155.set_2 | refine J155.y ?_)) : g ≠ gb359));have n7_:=aM_ ((by rw [hg];exact Nat.ne_of_gt (J155.lt (show J155 w0 _ g s0_0 s0_1 s0_2 from by repeat first | exact J155.z HI0 | apply J155.set_1 | apply J155.set_2 | refine J155.y ?_)) : gb359 ≠ g));clear HI0 HK HB;have HI0:=n0_;have HK:=n1_;have HB:=n2_;have BK359:=n3_;have GW359:=n4_;have GE359:=n5_;have NB0_359:=n6_;have NB359_0:=n7_;clear n0_ n1_ n2_ n3_ n4_ n5_ n6_ n7_ hb hbox hg) | ((with_reducible refine gate_callee (f:=86) rfl ?_);refine goesL_ (some 5) rfl rfl Try.func86 (by kernel_rfl) rfl #[.pointer (some ⟨g,0,none⟩)] rfl (by (try simp only [mA_,mC_,mN_]);first | done | rfl | (simp only [lD_,lT_];rfl)) ?_;(with_reducible refine (spec_l14Draw.calls k g s0_0 s0_1 s0_2 t360 t361 t364 t367 t370 t371 w0 _ ?side1 ?side2 A2.out).mono ?_);(case side1=>repeat first | exact J155.z HI0 | apply J155.set_1 | apply J155.set_2 | refine J155.y ?_);(case side2=>have e0_:=aM_ (J155.ge HI0.out);exact bZ_ HB);rintro e w99 ⟨v362,v365,v368,rfl,ho0,ho1,ho2,hi,hb,hk⟩;refine ⟨_,rfl,?_⟩;have n0_:=aM_ (KeepBut.blk hk (g':=gb359) (o:=.cells #[.bool false,.slice none 0 0,.slice none 0 0,.slice none 0 0] 29 (0,0)) (by exact kZ_ BK359) NB359_0.out (by simp));have n1_:=aM_ (Kd.R_lower ho0 (keep_size (w:=w) (g:=g) (row:=none) (by exact eZ_ HK)));have n2_:=aM_ (Kd.R_lower ho1 (keep_size (w:=w) (g:=g) (row:=none) (by exact eZ_ HK)));have n3_:=aM_ (Kd.R_lower ho2 (keep_size (w:=w) (g:=g) (row:=none) (by exact eZ_ HK)));have n4_:=aM_ (KeepBut.trans (by exact eZ_ HK) hk (.inl rfl));have n5_:=aM_ (hb);have n6_:=aM_ (hi);clear BK359 HK HB HI0;have BK359:=n0_;have HO363:=n1_;have HO366:=n2_;have HO369:=n3_;have HK:=n4_;have HB:=n5_;have HI0:=n6_;clear n0_ n1_ n2_ n3_ n4_ n5_ n6_ hb hk hi ho0 ho1 ho2) | ((with_reducible refine gate_dst (N:=3) rfl ?_);refine box_event ?hg (N:=3) ?hd (cs:=#[.bool false,.slice none 0 0,.slice none 0 0,.slice none 0 0]) (t:=29) ?hr ?_;(case hd=>rfl);(case hg=>rfl);(case hr=>first | (go_simp;done) | (go_simp;rfl));intro gb372 hg w100 hbox hb;have n0_:=aM_ (Kd.R_below (by exact rZ_ HO363) hb);have n1_:=aM_ (Kd.R_below (by exact rZ_ HO366) hb);have n2_:=aM_ (Kd.R_below (by exact rZ_ HO369) hb);have n3_:=aM_ (J155.below (by repeat first | exact J155.z HI0 | apply J155.set_1 | apply J155.set_2 | refine J155.y ?_) hb);have n4_:=aM_ (blk_below (g:=gb359) (o:=.cells #[.bool false,.slice none 0 0,.slice none 0 0,.slice none 0 0] 29 (0,0)) (by exact kZ_ BK359) hb);have n5_:=aM_ (KeepBut.trans (by exact eZ_ HK) (KeepBut.of_below hb g none) (.inl rfl));have n6_:=aM_ (bT_ (by have e0_:=aM_ (J155.ge HI0.out);exact bZ_ HB) hb);have n7_:=aM_ (hbox);have n8_:=aM_ ((by rw [hg];exact (keep_size (w:=w) (g:=g) (row:=none) (by exact eZ_ HK)) : w.heap.size ≤ gb372));have n9_:=aM_ ((Nat.le_trans HW0.out (by rw [hg];exact (keep_size (w:=w) (g:=g) (row:=none) (by exact eZ_ HK)) : w.heap.size ≤ gb372) : w0.heap.size ≤ gb372));have n10_:=aM_ ((by rw [hg];exact Nat.ne_of_lt (blk_lt (g:=gb359) (o:=.cells #[.bool false,.slice none 0 0,.slice none 0 0,.slice none 0 0] 29 (0,0)) (by exact kZ_ BK359)) : gb359 ≠ gb372));have n11_:=aM_ ((by rw [hg];exact Nat.ne_of_gt (blk_lt (g:=gb359) (o:=.cells #[.bool false,.slice none 0 0,.slice none 0 0,.slice none 0 0] 29 (0,0)) (by exact kZ_ BK359)) : gb372 ≠ gb359));have n12_:=aM_ ((by rw [hg];exact Nat.ne_of_lt (J155.lt (show J155 w0 _ g s0_0 t370 t371 from by repeat first | exact J155.z HI0 | apply J155.set_1 | apply J155.set_2 | refine J155.y ?_)) : g ≠ gb372));have n13_:=aM_ ((by rw [hg];exact Nat.ne_of_gt (J155.lt (show J155 w0 _ g s0_0 t370 t371 from by repeat first | exact J155.z HI0 | apply J155.set_1 | apply J155.set_2 | refine J155.y ?_)) : gb372 ≠ g));clear HO363 HO366 HO369 HI0 BK359 HK HB;have HO363:=n0_;have HO366:=n1_;have HO369:=n2_;have HI0:=n3_;have BK359:=n4_;have HK:=n5_;have HB:=n6_;have BK372:=n7_;have GW372:=n8_;have GE372:=n9_;have NB359_372:=n10_;have NB372_359:=n11_;have NB0_372:=n12_;have NB372_0:=n13_;clear n0_ n1_ n2_ n3_ n4_ n5_ n6_ n7_ n8_ n9_ n10_ n11_ n12_ n13_ hb hbox hg;have hnb101:=NB372_359.out;have hnc101:=NB359_372.out;have hnb102:=NB372_0.out;have hnc102:=NB0_372.out;have hcz103_0 : w100.cell? ⟨gb372,0,none⟩ = some (.bool false):=(kC_ BK372.out 0).trans rfl;have hcz103_1 : w100.cell? ⟨gb372,1,none⟩ = some (.slice none 0 0):=(kC_ BK372.out 1).trans rfl;have hcz103_2 : w100.cell? ⟨gb372,2,none⟩ = some (.slice none 0 0):=(kC_ BK372.out 2).trans rfl;have hcz103_3 : w100.cell? ⟨gb372,3,none⟩ = some (.slice none 0 0):=(kC_ BK372.out 3).trans rfl;have hfz103_0:=kF_ BK372.out 0;have hfz103_1:=kF_ BK372.out 1;have hfz103_2:=kF_ BK372.out 2;have hfz103_3:=kF_ BK372.out 3;obtain ⟨Ao104,co104,eo104⟩:=Kd.R_slice HO363.out;subst eo104;obtain ⟨Ao105,co105,eo105⟩:=Kd.R_slice HO366.out;subst eo105;obtain ⟨Ao106,co106,eo106⟩:=Kd.R_slice HO369.out;subst eo106) | ((with_reducible refine gate_callee (f:=125) rfl ?_);refine goesL_ (some 7) rfl rfl Try.func125 (by kernel_rfl) rfl #[.pointer (some ⟨g,0,none⟩),.int .i64 12] rfl (by (try simp only [mA_,mC_,mN_]);first | done | rfl | (simp only [lD_,lT_];rfl)) ?_;(with_reducible refine (spec_l1Below.calls g s0_0 t370 t371 12 t373 t374 t375 w0 _ ?side1 ?side2 A3.out).mono ?_);(case side1=>repeat first | exact J155.z HI0 | apply J155.set_1 | apply J155.set_2 | refine J155.y ?_);(case side2=>have e0_:=aM_ (J155.ge HI0.out);exact bZ_ HB);rintro e w107 ⟨rfl,hi,hb,hk⟩;refine ⟨_,rfl,?_⟩;have n0_:=aM_ (KeepBut.blk hk (g':=gb359) (o:=.cells #[.bool false,.slice none 0 0,.slice none 0 0,.slice none 0 0] 29 (0,0)) (by exact kW_ BK359) NB359_0.out (by simp));have n1_:=aM_ (Kd.R_mono (Kd.R_keep (J155.apart (show J155 w0 _ g s0_0 t370 t371 from by repeat first | exact J155.z HI0 | apply J155.set_1 | apply J155.set_2 | refine J155.y ?_) (by (with_reducible repeat (first | apply rA_ | apply rN_ | apply rD_));exact (Kd.R_mono (Kd.R_far (p:=⟨gb372,3,none⟩) (Kd.R_far (p:=⟨gb372,2,none⟩) (Kd.R_far (p:=⟨gb372,1,none⟩) (Kd.R_far (p:=⟨gb372,0,none⟩) (Kd.R_types HO363.out BK372.out (by decide)) (fun _ hk=>hk.2) (.bool t360)) (fun _ hk=>hk.2) (.slice Ao104 t361.length co104)) (fun _ hk=>hk.2) (.slice Ao105 t364.length co105)) (fun _ hk=>hk.2) (.slice Ao106 t367.length co106)) (fun _ h_=>h_.1))) (by decide)) hk (fun _ h=>h.2)) (fun _ h=>h.1));have n2_:=aM_ (Kd.R_mono (Kd.R_keep (J155.apart (show J155 w0 _ g s0_0 t370 t371 from by repeat first | exact J155.z HI0 | apply J155.set_1 | apply J155.set_2 | refine J155.y ?_) (by (with_reducible repeat (first | apply rA_ | apply rN_ | apply rD_));exact (Kd.R_mono (Kd.R_far (p:=⟨gb372,3,none⟩) (Kd.R_far (p:=⟨gb372,2,none⟩) (Kd.R_far (p:=⟨gb372,1,none⟩) (Kd.R_far (p:=⟨gb372,0,none⟩) (Kd.R_types HO366.out BK372.out (by decide)) (fun _ hk=>hk.2) (.bool t360)) (fun _ hk=>hk.2) (.slice Ao104 t361.length co104)) (fun _ hk=>hk.2) (.slice Ao105 t364.length co105)) (fun _ hk=>hk.2) (.slice Ao106 t367.length co106)) (fun _ h_=>h_.1))) (by decide)) hk (fun _ h=>h.2)) (fun _ h=>h.1));have n3_:=aM_ (Kd.R_mono (Kd.R_keep (J155.apart (show J155 w0 _ g s0_0 t370 t371 from by repeat first | exact J155.z HI0 | apply J155.set_1 | apply J155.set_2 | refine J155.y ?_) (by (with_reducible repeat (first | apply rA_ | apply rN_ | apply rD_));exact (Kd.R_mono (Kd.R_far (p:=⟨gb372,3,none⟩) (Kd.R_far (p:=⟨gb372,2,none⟩) (Kd.R_far (p:=⟨gb372,1,none⟩) (Kd.R_far (p:=⟨gb372,0,none⟩) (Kd.R_types HO369.out BK372.out (by decide)) (fun _ hk=>hk.2) (.bool t360)) (fun _ hk=>hk.2) (.slice Ao104 t361.length co104)) (fun _ hk=>hk.2) (.slice Ao105 t364.length co105)) (fun _ hk=>hk.2) (.slice Ao106 t367.length co106)) (fun _ h_=>h_.1))) (by decide)) hk (fun _ h=>h.2)) (fun _ h=>h.1));have n4_:=aM_ (KeepBut.blk hk (g':=gb372) (o:=.cells #[.bool t360,.slice Ao104 t361.length co104,.slice Ao105 t364.length co105,.slice Ao106 t367.length co106] 29 (0,0)) (by (with_reducible repeat (first | refine kN_ ?_ _ | refine kD_ ?_ | refine kA_ ?_ _));refine kP_ (cs:=#[.bool t360,.slice Ao104 t361.length co104,.slice Ao105 t364.length co105,.slice none 0 0]) ?_ 3 _ rfl;(with_reducible repeat (first | refine kN_ ?_ _ | refine kD_ ?_ | refine kA_ ?_ _));refine kP_ (cs:=#[.bool t360,.slice Ao104 t361.length co104,.slice none 0 0,.slice none 0 0]) ?_ 2 _ rfl;(with_reducible repeat (first | refine kN_ ?_ _ | refine kD_ ?_ | refine kA_ ?_ _));refine kP_ (cs:=#[.bool t360,.slice none 0 0,.slice none 0 0,.slice none 0 0]) ?_ 1 _ rfl;(with_reducible repeat (first | refine kN_ ?_ _ | refine kD_ ?_ | refine kA_ ?_ _));refine kP_ (cs:=#[.bool false,.slice none 0 0,.slice none 0 0,.slice none 0 0]) ?_ 0 _ rfl;exact kZ_ BK372) NB372_0.out (by simp));have n5_:=aM_ (KeepBut.trans (by exact eZ_ HK) hk (.inl rfl));have n6_:=aM_ (hb);have n7_:=aM_ (hi);clear BK359 HO363 HO366 HO369 BK372 HK HB HI0;have BK359:=n0_;have HO363:=n1_;have HO366:=n2_;have HO369:=n3_;have BK372:=n4_;have HK:=n5_;have HB:=n6_;have HI0:=n7_;clear n0_ n1_ n2_ n3_ n4_ n5_ n6_ n7_ hb hk hi;have hcz108_0 : w107.cell? ⟨gb372,0,none⟩ = some (.bool t360):=(kC_ BK372.out 0).trans rfl;have hcz108_1 : w107.cell? ⟨gb372,1,none⟩ = some (.slice Ao104 t361.length co104):=(kC_ BK372.out 1).trans rfl;have hcz108_2 : w107.cell? ⟨gb372,2,none⟩ = some (.slice Ao105 t364.length co105):=(kC_ BK372.out 2).trans rfl;have hcz108_3 : w107.cell? ⟨gb372,3,none⟩ = some (.slice Ao106 t367.length co106):=(kC_ BK372.out 3).trans rfl;have hfz108_0:=kF_ BK372.out 0;have hfz108_1:=kF_ BK372.out 1;have hfz108_2:=kF_ BK372.out 2;have hfz108_3:=kF_ BK372.out 3;have hnb109:=NB359_0.out;have hnc109:=NB0_359.out;have hcz110_0 : w107.cell? ⟨gb359,0,none⟩ = some (.bool false):=(kC_ BK359.out 0).trans rfl;have hcz110_1 : w107.cell? ⟨gb359,1,none⟩ = some (.slice none 0 0):=(kC_ BK359.out 1).trans rfl;have hcz110_2 : w107.cell? ⟨gb359,2,none⟩ = some (.slice none 0 0):=(kC_ BK359.out 2).trans rfl;have hcz110_3 : w107.cell? ⟨gb359,3,none⟩ = some (.slice none 0 0):=(kC_ BK359.out 3).trans rfl;have hfz110_0:=kF_ BK359.out 0;have hfz110_1:=kF_ BK359.out 1;have hfz110_2:=kF_ BK359.out 2;have hfz110_3:=kF_ BK359.out 3))
     refine bodyPost_ret (results_cell_row rfl _ _ gb359 29 #[.bool t360,.slice Ao104 t361.length co104,.slice Ao105 t364.length co105,.slice Ao106 t367.length co106] (0,0) _ rfl (by (with_reducible repeat (first | refine kN_ ?_ _ | refine kD_ ?_ | refine kA_ ?_ _));refine kP_ (cs:=#[.bool t360,.slice Ao104 t361.length co104,.slice Ao105 t364.length co105,.slice none 0 0]) ?_ 3 _ rfl;(with_reducible repeat (first | refine kN_ ?_ _ | refine kD_ ?_ | refine kA_ ?_ _));refine kP_ (cs:=#[.bool t360,.slice Ao104 t361.length co104,.slice none 0 0,.slice none 0 0]) ?_ 2 _ rfl;(with_reducible repeat (first | refine kN_ ?_ _ | refine kD_ ?_ | refine kA_ ?_ _));refine kP_ (cs:=#[.bool t360,.slice none 0 0,.slice none 0 0,.slice none 0 0]) ?_ 1 _ rfl;(with_reducible repeat (first | refine kN_ ?_ _ | refine kD_ ?_ | refine kA_ ?_ _));refine kP_ (cs:=#[.bool false,.slice none 0 0,.slice none 0 0,.slice none 0 0]) ?_ 0 _ rfl;exact kZ_ BK359) Try.underlying29 rfl (by kernel_rfl)) rfl ?_
     exact ⟨_,_,_,by first | rfl | (simp [errW_none,errW_some] <;> rfl) | (simp [*, errW_none,errW_some] <;> rfl),by (with_reducible repeat (first | apply rA_ | apply rN_ | apply rD_));exact Kd.R_mono (Kd.R_far (p:=⟨gb359,3,none⟩) (Kd.R_far (p:=⟨gb359,2,none⟩) (Kd.R_far (p:=⟨gb359,1,none⟩) (Kd.R_far (p:=⟨gb359,0,none⟩) (Kd.R_types HO363.out BK359.out (by decide)) (fun _ hk=>hk.2) (.bool t360)) (fun _ hk=>hk.2) (.slice Ao104 t361.length co104)) (fun _ hk=>hk.2) (.slice Ao105 t364.length co105)) (fun _ hk=>hk.2) (.slice Ao106 t367.length co106)) (fun _ hk=>hk.1),by (with_reducible repeat (first | apply rA_ | apply rN_ | apply rD_));exact Kd.R_mono (Kd.R_far (p:=⟨gb359,3,none⟩) (Kd.R_far (p:=⟨gb359,2,none⟩) (Kd.R_far (p:=⟨gb359,1,none⟩) (Kd.R_far (p:=⟨gb359,0,none⟩) (Kd.R_types HO366.out BK359.out (by decide)) (fun _ hk=>hk.2) (.bool t360)) (fun _ hk=>hk.2) (.slice Ao104 t361.length co104)) (fun _ hk=>hk.2) (.slice Ao105 t364.length co105)) (fun _ hk=>hk.2) (.slice Ao106 t367.length co106)) (fun _ hk=>hk.1),by (with_reducible repeat (first | apply rA_ | apply rN_ | apply rD_));exact Kd.R_mono (Kd.R_far (p:=⟨gb359,3,none⟩) (Kd.R_far (p:=⟨gb359,2,none⟩) (Kd.R_far (p:=⟨gb359,1,none⟩) (Kd.R_far (p:=⟨gb359,0,none⟩) (Kd.R_types HO369.out BK359.out (by decide)) (fun _ hk=>hk.2) (.bool t360)) (fun _ hk=>hk.2) (.slice Ao104 t361.length co104)) (fun _ hk=>hk.2) (.slice Ao105 t364.length co105)) (fun _ hk=>hk.2) (.slice Ao106 t367.length co106)) (fun _ hk=>trivial),by repeat first | exact J155.z HI0 | apply J155.set_1 | apply J155.set_2 | refine J155.y ?_,by have e0_:=aM_ (J155.ge HI0.out);exact bZ_ HB,by exact eZ_ HK⟩
end Go.Proofs.Ytllgmgpfdnofmaa.PFnNodes
