import Derived.Test.YtllgmgpfdnofmaaZNDPFnNodesx0
import Derived.Test.YtllgmgpfdnofmaaZNDPFnNodesx11
namespace Go.Proofs.Ytllgmgpfdnofmaa.PFnNodes
open Go.RowKit Go.Proofs.YtllgmgpfdnofmaaW.PrintWords Go.Proofs.YtllgmgpfdnofmaaW.PrintLast Go.Proofs.YtllgmgpfdnofmaaW.PrintMore Go.Proofs.Ytllgmgpfdnofmaa.Xtra
attribute [local go_sem] max2_int min2_int max_two min_two max_three min_three max_four min_four str_leq str_gtr str_geq setCell_drewN cell_set2 cell_set3   -- for this text's walks alone
set_option linter.unusedVariables false
set_option linter.unusedSimpArgs false
mutual
def spec_l14Draw.l0 : Nat → List ByteArray → Int → List Int → Int → Int → Bool → List ByteArray → Option (Bool × List ByteArray × List ByteArray × List Int × Int × Int)
 | 0,_,_,_,_,_,_,_=>none
 | k + 1,x4,x5,x1000,x1001,x1002,x324000,x324001=>if x5 < (x4.length : Int) then ((spec_l1Once.f x1000 x1001 x1002 2).bind fun bt327=>(if bt327.1 = true then (if 0 ≤ x5 then ((spec_l1Str.f x1000 bt327.2.1 bt327.2.2 (([(⟨#[]⟩ : ByteArray),(⟨#[49]⟩ : ByteArray),(⟨#[108,111,110,103,101,114,45,97,110,100,45,108,111,110,103,101,114,45,107,101,121]⟩ : ByteArray)] : List ByteArray))).bind fun bt334=>(if (rdOf ByteArray.empty x4 x5).size + bt334.1.size ≤ 9223372036854775807 then (if x324001.length < 8796093022208 then (spec_l14Draw.l0 k x4 (wrap64 (x5 + 1)) x1000 bt334.2.1 bt334.2.2 x324000 (x324001 ++ [(rdOf ByteArray.empty x4 x5) ++ bt334.1])) else (none)) else (none))) else (none)) else (spec_l14Draw.l0 k x4 (wrap64 (x5 + 1)) x1000 bt327.2.1 bt327.2.2 x324000 x324001))) else (spec_l14Draw.l1 k 0 x1000 x1001 x1002 x324000 x324001 ([] : List ByteArray) ([] : List Int))
def spec_l14Draw.l1 : Nat → Int → List Int → Int → Int → Bool → List ByteArray → List ByteArray → List Int → Option (Bool × List ByteArray × List ByteArray × List Int × Int × Int)
 | 0,_,_,_,_,_,_,_,_=>none
 | k + 1,x6,x1000,x1001,x1002,x324000,x324001,x324002,x324003=>if x6 ≤ (x324001.length : Int) then (if x324000 = true then (if x6 < (x324001.length : Int) then ((spec_l1Str.f x1000 x1001 x1002 (([(⟨#[]⟩ : ByteArray),(⟨#[118]⟩ : ByteArray),(⟨#[118,97,108,117,101]⟩ : ByteArray)] : List ByteArray))).bind fun bt343=>(if x324002.length < 8796093022208 then (spec_l14Draw.l1 k (wrap64 (x6 + 1)) x1000 bt343.2.1 bt343.2.2 x324000 x324001 (x324002 ++ [bt343.1]) x324003) else (none))) else (spec_l14Draw.l1 k (wrap64 (x6 + 1)) x1000 x1001 x1002 x324000 x324001 x324002 x324003)) else ((spec_l1Below.f x1000 x1001 x1002 40).bind fun bt349=>(if x324003.length < 17592186044416 then (spec_l14Draw.l1 k (wrap64 (x6 + 1)) x1000 bt349.2.1 bt349.2.2 x324000 x324001 x324002 (x324003 ++ [wrap64 (2 + bt349.1)])) else (none)))) else (some (x324000,x324001,x324002,x324003,x1001,x1002))
end
def spec_l14Draw.f (k : Nat) (s0_0 : List Int) (s0_1 : Int) (s0_2 : Int) : Option (Bool × List ByteArray × List ByteArray × List Int × Int × Int):=(spec_l1Once.f s0_0 s0_1 s0_2 2).bind fun bt320=>(spec_l14Draw.l0 k (([(⟨#[97]⟩ : ByteArray),(⟨#[98]⟩ : ByteArray),(⟨#[99]⟩ : ByteArray),(⟨#[100]⟩ : ByteArray),(⟨#[101]⟩ : ByteArray),(⟨#[102]⟩ : ByteArray)] : List ByteArray)) 0 s0_0 bt320.2.1 bt320.2.2 bt320.1 ([] : List ByteArray))
theorem spec_l14Draw.mono_l : ∀ k,(∀ y0 y1 y2 y3 y4 y5 y6,LeO (spec_l14Draw.l0 k y0 y1 y2 y3 y4 y5 y6) (spec_l14Draw.l0 (k + 1) y0 y1 y2 y3 y4 y5 y6)) ∧ (∀ y0 y1 y2 y3 y4 y5 y6 y7,LeO (spec_l14Draw.l1 k y0 y1 y2 y3 y4 y5 y6 y7) (spec_l14Draw.l1 (k + 1) y0 y1 y2 y3 y4 y5 y6 y7))
 | 0=>⟨fun _ _ _ _ _ _ _ r h=>by simp [spec_l14Draw.l0] at h,fun _ _ _ _ _ _ _ _ r h=>by simp [spec_l14Draw.l1] at h⟩
 | k + 1=>by
  obtain ⟨ih0,ih1⟩:=spec_l14Draw.mono_l k
  refine ⟨?_,?_⟩
  ·intro y0 y1 y2 y3 y4 y5 y6
   unfold spec_l14Draw.l0
   repeat' first
   | (with_reducible exact ih0 _ _ _ _ _ _ _)
   | (with_reducible exact ih1 _ _ _ _ _ _ _ _)
   | (with_reducible exact LeO.refl _)
   | (with_reducible exact LeO.none _)
   | (with_reducible refine LeO.ite ?_ ?_)
   | (with_reducible refine LeO.bind ?_ (fun _=>?_))
   | exact ih0 _ _ _ _ _ _ _
   | exact ih1 _ _ _ _ _ _ _ _
   | exact LeO.none _
   | refine LeO.ite ?_ ?_
   | refine LeO.bind ?_ (fun _=>?_)
  ·intro y0 y1 y2 y3 y4 y5 y6 y7
   unfold spec_l14Draw.l1
   repeat' first
   | (with_reducible exact ih0 _ _ _ _ _ _ _)
   | (with_reducible exact ih1 _ _ _ _ _ _ _ _)
   | (with_reducible exact LeO.refl _)
   | (with_reducible exact LeO.none _)
   | (with_reducible refine LeO.ite ?_ ?_)
   | (with_reducible refine LeO.bind ?_ (fun _=>?_))
   | exact ih0 _ _ _ _ _ _ _
   | exact ih1 _ _ _ _ _ _ _ _
   | exact LeO.none _
   | refine LeO.ite ?_ ?_
   | refine LeO.bind ?_ (fun _=>?_)
theorem spec_l14Draw.mono : ∀ a0 a1 a2 k,LeO (spec_l14Draw.f k a0 a1 a2) (spec_l14Draw.f (k + 1) a0 a1 a2):=by
 intro a0 a1 a2 k
 obtain ⟨ih0,ih1⟩:=spec_l14Draw.mono_l k
 unfold spec_l14Draw.f
 repeat' first
   | (with_reducible exact ih0 _ _ _ _ _ _ _)
   | (with_reducible exact ih1 _ _ _ _ _ _ _ _)
   | (with_reducible exact LeO.refl _)
   | (with_reducible exact LeO.none _)
   | (with_reducible refine LeO.ite ?_ ?_)
   | (with_reducible refine LeO.bind ?_ (fun _=>?_))
   | exact ih0 _ _ _ _ _ _ _
   | exact ih1 _ _ _ _ _ _ _ _
   | exact LeO.none _
   | refine LeO.ite ?_ ?_
   | refine LeO.bind ?_ (fun _=>?_)
def spec_l14Draw.T7 : Bool × List (List Nat × List Nat):=(true,[([],[]),([0],[0]),([],[]),([],[]),([2,3],[2,3]),([4],[4]),([],[]),([],[]),([6,7],[6,7]),([5,8],[5,8]),([9],[9]),([1,10,8],[1,10]),([0,1,2,3,4,5,6,7,8,9,10,11],[]),([12,11,11,0,1,2,3,4,5,6,7,8,9,10,11],[11,12])])
def spec_l14Draw.B7 : List Nat:=[0,1,0,0,12,28,0,0,192,508,1020,2047,4095,8191]
theorem spec_l14Draw.tab7 : rtab .any (opsOf Try.f86 7) = spec_l14Draw.T7:=by kernel_rfl
theorem spec_l14Draw.bits7 : waitsOk spec_l14Draw.T7.2 spec_l14Draw.B7 = true:=by kernel_rfl
def spec_l14Draw.T12 : Bool × List (List Nat × List Nat):=(true,[([],[]),([0],[0]),([],[]),([2],[2]),([3],[3]),([4],[4]),([1,5,3],[1,5]),([0,1,2,3,4,5,6],[]),([7,6,6,0,1,2,3,4,5,6],[6,7])])
def spec_l14Draw.B12 : List Nat:=[0,1,0,4,12,28,63,127,255]
theorem spec_l14Draw.tab12 : rtab .any (opsOf Try.f86 12) = spec_l14Draw.T12:=by kernel_rfl
theorem spec_l14Draw.bits12 : waitsOk spec_l14Draw.T12.2 spec_l14Draw.B12 = true:=by kernel_rfl
def spec_l14Draw.T14 : Bool × List (List Nat × List Nat):=(true,[([],[]),([0],[0]),([],[]),([],[]),([2,3],[2,3]),([4],[4]),([1,5,4],[1,5]),([0,1,2,3,4,5,6],[]),([7,6,6,0,1,2,3,4,5,6],[6,7])])
def spec_l14Draw.B14 : List Nat:=[0,1,0,0,12,28,63,127,255]
theorem spec_l14Draw.tab14 : rtab .any (opsOf Try.f86 14) = spec_l14Draw.T14:=by kernel_rfl
theorem spec_l14Draw.bits14 : waitsOk spec_l14Draw.T14.2 spec_l14Draw.B14 = true:=by kernel_rfl
set_option maxHeartbeats 8000000 in
set_option maxRecDepth 100000 in
theorem spec_l14Draw.calls (k : Nat) (g : Nat) (s0_0 : List Int) (s0_1 : Int) (s0_2 : Int) (r1 : Bool) (r2 : List ByteArray) (r3 : List ByteArray) (r4 : List Int) (r5 : Int) (r6 : Int) (w0 w : World) (hI : J155 w0 w g s0_0 s0_1 s0_2) (hB : Below w0.heap.size w0 w) (h : spec_l14Draw.f k s0_0 s0_1 s0_2 = some (r1,r2,r3,r4,r5,r6)) :
  Calls Try.prog 86 #[.pointer (some ⟨g,0,none⟩)] w fun e w'=>∃ v1_ v2_ v3_ : Value,e = .returned (.agg #[.bool r1,v1_,v2_,v3_]) ∧ Kd.R Kd.string 9 w' w.heap.size (fun k_=>some k_ ≠ (v2_ : Value).ownBlock) v1_ r2 ∧ Kd.R Kd.string 9 w' w.heap.size (fun k_=>some k_ ≠ (v1_ : Value).ownBlock) v2_ r3 ∧ Kd.R (Kd.int .i64) 3 w' w.heap.size (fun _=>True) v3_ r4 ∧ J155 w0 w' g s0_0 r5 r6 ∧ Below w0.heap.size w0 w' ∧ KeepBut w w' g none:=by
 have hu29:=Try.underlying29
 have HI0:=aM_ hI
 have HK:=aM_ (KeepBut.refl w g none)
 have HL:=aM_ hB.size
 clear hI
 have HW0:=aM_ hB.size
 have HB:=aM_ hB
 clear hB
 have H : ((spec_l1Once.f s0_0 s0_1 s0_2 2).bind fun bt320=>(spec_l14Draw.l0 k (([(⟨#[97]⟩ : ByteArray),(⟨#[98]⟩ : ByteArray),(⟨#[99]⟩ : ByteArray),(⟨#[100]⟩ : ByteArray),(⟨#[101]⟩ : ByteArray),(⟨#[102]⟩ : ByteArray)] : List ByteArray)) 0 s0_0 bt320.2.1 bt320.2.2 bt320.1 ([] : List ByteArray))) = some (r1,r2,r3,r4,r5,r6):=h
 clear h
 replace H:=oB_ H
 obtain ⟨⟨t320,t321,t322⟩,A20,H⟩:=H
 replace H : (spec_l14Draw.l0 k (([(⟨#[97]⟩ : ByteArray),(⟨#[98]⟩ : ByteArray),(⟨#[99]⟩ : ByteArray),(⟨#[100]⟩ : ByteArray),(⟨#[101]⟩ : ByteArray),(⟨#[102]⟩ : ByteArray)] : List ByteArray)) 0 s0_0 t321 t322 t320 ([] : List ByteArray)) = some (r1,r2,r3,r4,r5,r6):=H
 have A2:=aM_ A20
 clear A20
 obtain ⟨y324,hy324⟩ : ∃ y_ : List ByteArray,y_ = (([(⟨#[97]⟩ : ByteArray),(⟨#[98]⟩ : ByteArray),(⟨#[99]⟩ : ByteArray),(⟨#[100]⟩ : ByteArray),(⟨#[101]⟩ : ByteArray),(⟨#[102]⟩ : ByteArray)] : List ByteArray)):=⟨_,rfl⟩
 replace H : (spec_l14Draw.l0 k y324 0 s0_0 t321 t322 t320 ([] : List ByteArray)) = some (r1,r2,r3,r4,r5,r6):=by first | (rw [hy324];with_reducible exact H) | (have H2_:=(Option.bind_some _ _).symm.trans H;rw [hy324];with_reducible exact H2_) | (have H2_:=(Option.bind_some _ _).symm.trans H;with_reducible exact H2_) | with_reducible exact H | (rw [hy324];exact H) | exact H
 have Ny324:=aM_ hy324
 clear hy324
 have H':=aM_ H
 clear H
 go_enter Try.func86,Try.ntmps86
 go_wp2_with (first | ((with_reducible refine gate_dst (N:=2) rfl ?_);refine box_event ?hg (N:=2) ?hd (cs:=#[.bool false,.slice none 0 0,.slice none 0 0,.slice none 0 0]) (t:=29) ?hr ?_;(case hd=>rfl);(case hg=>rfl);(case hr=>first | (go_simp;done) | (go_simp;rfl));intro gb319 hg w3 hbox hb;have n0_:=aM_ (J155.below (by repeat first | exact J155.z HI0 | apply J155.set_1 | apply J155.set_2 | refine J155.y ?_) hb);have n1_:=aM_ (KeepBut.trans (by exact eZ_ HK) (KeepBut.of_below hb g none) (.inl rfl));have n2_:=aM_ (bT_ (by have e0_:=aM_ (J155.ge HI0.out);exact bZ_ HB) hb);have n3_:=aM_ (hbox);have n4_:=aM_ ((by rw [hg];exact (keep_size (w:=w) (g:=g) (row:=none) (by exact eZ_ HK)) : w.heap.size ≤ gb319));have n5_:=aM_ ((Nat.le_trans HW0.out (by rw [hg];exact (keep_size (w:=w) (g:=g) (row:=none) (by exact eZ_ HK)) : w.heap.size ≤ gb319) : w0.heap.size ≤ gb319));have n6_:=aM_ ((by rw [hg];exact Nat.ne_of_lt (J155.lt (show J155 w0 _ g s0_0 s0_1 s0_2 from by repeat first | exact J155.z HI0 | apply J155.set_1 | apply J155.set_2 | refine J155.y ?_)) : g ≠ gb319));have n7_:=aM_ ((by rw [hg];exact Nat.ne_of_gt (J155.lt (show J155 w0 _ g s0_0 s0_1 s0_2 from by repeat first | exact J155.z HI0 | apply J155.set_1 | apply J155.set_2 | refine J155.y ?_)) : gb319 ≠ g));clear HI0 HK HB;have HI0:=n0_;have HK:=n1_;have HB:=n2_;have BK319:=n3_;have GW319:=n4_;have GE319:=n5_;have NB0_319:=n6_;have NB319_0:=n7_;clear n0_ n1_ n2_ n3_ n4_ n5_ n6_ n7_ hb hbox hg) | ((with_reducible refine gate_callee (f:=107) rfl ?_);refine goesL_ (some 8) rfl rfl Try.func107 (by kernel_rfl) rfl #[.pointer (some ⟨g,0,none⟩),.int .i64 2] rfl (by (try simp only [mA_,mC_,mN_]);first | done | rfl | (simp only [lD_,lT_];rfl)) ?_;(with_reducible refine (spec_l1Once.calls g s0_0 s0_1 s0_2 2 t320 t321 t322 w0 _ ?side1 ?side2 A2.out).mono ?_);(case side1=>repeat first | exact J155.z HI0 | apply J155.set_1 | apply J155.set_2 | refine J155.y ?_);(case side2=>have e0_:=aM_ (J155.ge HI0.out);exact bZ_ HB);rintro e w4 ⟨rfl,hi,hb,hk⟩;refine ⟨_,rfl,?_⟩;have n0_:=aM_ (KeepBut.blk hk (g':=gb319) (o:=.cells #[.bool false,.slice none 0 0,.slice none 0 0,.slice none 0 0] 29 (0,0)) (by exact kZ_ BK319) NB319_0.out (by simp));have n1_:=aM_ (KeepBut.trans (by exact eZ_ HK) hk (.inl rfl));have n2_:=aM_ (hb);have n3_:=aM_ (hi);clear BK319 HK HB HI0;have BK319:=n0_;have HK:=n1_;have HB:=n2_;have HI0:=n3_;clear n0_ n1_ n2_ n3_ hb hk hi) | ((with_reducible refine gate_dst (N:=3) rfl ?_);refine box_event ?hg (N:=3) ?hd (cs:=#[.bool false,.slice none 0 0,.slice none 0 0,.slice none 0 0]) (t:=29) ?hr ?_;(case hd=>rfl);(case hg=>rfl);(case hr=>first | (go_simp;done) | (go_simp;rfl));intro gb323 hg w5 hbox hb;have n0_:=aM_ (J155.below (by repeat first | exact J155.z HI0 | apply J155.set_1 | apply J155.set_2 | refine J155.y ?_) hb);have n1_:=aM_ (blk_below (g:=gb319) (o:=.cells #[.bool false,.slice none 0 0,.slice none 0 0,.slice none 0 0] 29 (0,0)) (by exact kZ_ BK319) hb);have n2_:=aM_ (KeepBut.trans (by exact eZ_ HK) (KeepBut.of_below hb g none) (.inl rfl));have n3_:=aM_ (bT_ (by have e0_:=aM_ (J155.ge HI0.out);exact bZ_ HB) hb);have n4_:=aM_ (hbox);have n5_:=aM_ ((by rw [hg];exact (keep_size (w:=w) (g:=g) (row:=none) (by exact eZ_ HK)) : w.heap.size ≤ gb323));have n6_:=aM_ ((Nat.le_trans HW0.out (by rw [hg];exact (keep_size (w:=w) (g:=g) (row:=none) (by exact eZ_ HK)) : w.heap.size ≤ gb323) : w0.heap.size ≤ gb323));have n7_:=aM_ ((by rw [hg];exact Nat.ne_of_lt (blk_lt (g:=gb319) (o:=.cells #[.bool false,.slice none 0 0,.slice none 0 0,.slice none 0 0] 29 (0,0)) (by exact kZ_ BK319)) : gb319 ≠ gb323));have n8_:=aM_ ((by rw [hg];exact Nat.ne_of_gt (blk_lt (g:=gb319) (o:=.cells #[.bool false,.slice none 0 0,.slice none 0 0,.slice none 0 0] 29 (0,0)) (by exact kZ_ BK319)) : gb323 ≠ gb319));have n9_:=aM_ ((by rw [hg];exact Nat.ne_of_lt (J155.lt (show J155 w0 _ g s0_0 t321 t322 from by repeat first | exact J155.z HI0 | apply J155.set_1 | apply J155.set_2 | refine J155.y ?_)) : g ≠ gb323));have n10_:=aM_ ((by rw [hg];exact Nat.ne_of_gt (J155.lt (show J155 w0 _ g s0_0 t321 t322 from by repeat first | exact J155.z HI0 | apply J155.set_1 | apply J155.set_2 | refine J155.y ?_)) : gb323 ≠ g));clear HI0 BK319 HK HB;have HI0:=n0_;have BK319:=n1_;have HK:=n2_;have HB:=n3_;have BK323:=n4_;have GW323:=n5_;have GE323:=n6_;have NB319_323:=n7_;have NB323_319:=n8_;have NB0_323:=n9_;have NB323_0:=n10_;clear n0_ n1_ n2_ n3_ n4_ n5_ n6_ n7_ n8_ n9_ n10_ hb hbox hg;have hnb6:=NB323_319.out;have hnc6:=NB319_323.out;have hnb7:=NB323_0.out;have hnc7:=NB0_323.out;have hcz8_0 : w5.cell? ⟨gb323,0,none⟩ = some (.bool false):=(kC_ BK323.out 0).trans rfl;have hcz8_1 : w5.cell? ⟨gb323,1,none⟩ = some (.slice none 0 0):=(kC_ BK323.out 1).trans rfl;have hcz8_2 : w5.cell? ⟨gb323,2,none⟩ = some (.slice none 0 0):=(kC_ BK323.out 2).trans rfl;have hcz8_3 : w5.cell? ⟨gb323,3,none⟩ = some (.slice none 0 0):=(kC_ BK323.out 3).trans rfl;have hfz8_0:=kF_ BK323.out 0;have hfz8_1:=kF_ BK323.out 1;have hfz8_2:=kF_ BK323.out 2;have hfz8_3:=kF_ BK323.out 3) | ((with_reducible refine gate_dst (N:=10) rfl ?_);refine Kd.R_lit Kd.string _ 9 ?hg (N:=10) ?hd (xs:=([(⟨#[97]⟩ : ByteArray),(⟨#[98]⟩ : ByteArray),(⟨#[99]⟩ : ByteArray),(⟨#[100]⟩ : ByteArray),(⟨#[101]⟩ : ByteArray),(⟨#[102]⟩ : ByteArray)] : List ByteArray)) (inner:=[.string (⟨#[97]⟩ : ByteArray),.string (⟨#[98]⟩ : ByteArray),.string (⟨#[99]⟩ : ByteArray),.string (⟨#[100]⟩ : ByteArray),.string (⟨#[101]⟩ : ByteArray),.string (⟨#[102]⟩ : ByteArray)]) (ok:=fun _=>True) (okp:=fun _=>True) ?hr ?hp (fun _ hk=>hk) trivial (Below.refl _ _) (Nat.le_refl _) (by simp) ?_;(case hd=>rfl);(case hg=>rfl);(case hr=>first | (go_simp;done) | (go_simp;rfl));(case hp=>exact (Reps.one (show Kd.M Kd.string _ _ _ (⟨#[97]⟩ : ByteArray) [.string (⟨#[97]⟩ : ByteArray)] from rfl) (Reps.one (show Kd.M Kd.string _ _ _ (⟨#[98]⟩ : ByteArray) [.string (⟨#[98]⟩ : ByteArray)] from rfl) (Reps.one (show Kd.M Kd.string _ _ _ (⟨#[99]⟩ : ByteArray) [.string (⟨#[99]⟩ : ByteArray)] from rfl) (Reps.one (show Kd.M Kd.string _ _ _ (⟨#[100]⟩ : ByteArray) [.string (⟨#[100]⟩ : ByteArray)] from rfl) (Reps.one (show Kd.M Kd.string _ _ _ (⟨#[101]⟩ : ByteArray) [.string (⟨#[101]⟩ : ByteArray)] from rfl) (Reps.one (show Kd.M Kd.string _ _ _ (⟨#[102]⟩ : ByteArray) [.string (⟨#[102]⟩ : ByteArray)] from rfl) (Reps.none _ _))))))));intro v325 w9 ho10 hb hg_ hnew_;clear hg_ hnew_;(first | rw [← Ny324.out] at ho10 | (simp only [Int.reduceToNat] at ho10;rw [← Ny324.out] at ho10));have n0_:=aM_ (Kd.R_lower ho10 (keep_size (w:=w) (g:=g) (row:=none) (by exact eZ_ HK)));have n1_:=aM_ (J155.below (show J155 w0 ((((w5.setCell ⟨gb323,0,none⟩ (.bool t320)).setCell ⟨gb323,1,none⟩ (.slice none 0 0)).setCell ⟨gb323,2,none⟩ (.slice none 0 0)).setCell ⟨gb323,3,none⟩ (.slice none 0 0)) g s0_0 t321 t322 from by repeat first | exact J155.z HI0 | apply J155.set_1 | apply J155.set_2 | refine J155.y ?_) hb);have n2_:=aM_ (blk_below (g:=gb319) (o:=.cells #[.bool false,.slice none 0 0,.slice none 0 0,.slice none 0 0] 29 (0,0)) (by exact kW_ BK319) hb);have n3_:=aM_ (blk_below (g:=gb323) (o:=.cells #[.bool t320,.slice none 0 0,.slice none 0 0,.slice none 0 0] 29 (0,0)) (by (with_reducible repeat (first | refine kN_ ?_ _ | refine kD_ ?_ | refine kA_ ?_ _));refine kP_ (cs:=#[.bool t320,.slice none 0 0,.slice none 0 0,.slice none 0 0]) ?_ 3 _ rfl;(with_reducible repeat (first | refine kN_ ?_ _ | refine kD_ ?_ | refine kA_ ?_ _));refine kP_ (cs:=#[.bool t320,.slice none 0 0,.slice none 0 0,.slice none 0 0]) ?_ 2 _ rfl;(with_reducible repeat (first | refine kN_ ?_ _ | refine kD_ ?_ | refine kA_ ?_ _));refine kP_ (cs:=#[.bool t320,.slice none 0 0,.slice none 0 0,.slice none 0 0]) ?_ 1 _ rfl;(with_reducible repeat (first | refine kN_ ?_ _ | refine kD_ ?_ | refine kA_ ?_ _));refine kP_ (cs:=#[.bool false,.slice none 0 0,.slice none 0 0,.slice none 0 0]) ?_ 0 _ rfl;exact kZ_ BK323) hb);have n4_:=aM_ (KeepBut.trans (by exact eZ_ HK) (KeepBut.of_below hb g none) (.inl rfl));have n5_:=aM_ (bT_ (by have e0_:=aM_ (J155.ge HI0.out);exact bZ_ HB) hb);clear HI0 BK319 BK323 HK HB;have HO326:=n0_;have HI0:=n1_;have BK319:=n2_;have BK323:=n3_;have HK:=n4_;have HB:=n5_;clear n0_ n1_ n2_ n3_ n4_ n5_ hb ho10))
 (try simp only [Act.put,sI_,sS_,sZ_])
 go_loopg [5] k (fun kq v5 w'=>∃ (x5_1 : Int) (x1001_1 : Int) (x1002_1 : Int) (x324001_1 : List ByteArray) (u324001 : Value),v5 = .int .i64 x5_1 ∧ Aside0 (spec_l14Draw.l0 kq y324 x5_1 s0_0 x1001_1 x1002_1 t320 x324001_1 = some (r1,r2,r3,r4,r5,r6)) ∧ Aside0 (kq ≤ k) ∧ Aside0 (Kd.R Kd.string 9 w' w.heap.size (fun k_=>some k_ ≠ (u324001 : Value).ownBlock) v325 y324) ∧ Aside0 (Kd.R Kd.string 9 w' w.heap.size (fun k_=>some k_ ≠ (v325 : Value).ownBlock) u324001 x324001_1) ∧ Aside0 (w'.heap[gb319]? = some (.cells #[.bool false,(.slice none 0 0),(.slice none 0 0),(.slice none 0 0)] 29 (0,0))) ∧ Aside0 (w'.heap[gb323]? = some (.cells #[.bool t320,u324001,(.slice none 0 0),(.slice none 0 0)] 29 (0,0))) ∧ Aside0 (J155 w0 w' g s0_0 x1001_1 x1002_1) ∧ Aside0 (KeepBut w w' g none) ∧ Aside0 (Below w0.heap.size w0 w'))
 case atStart=>exact ⟨(0),(t321),(t322),(([] : List ByteArray)),(.slice none 0 0),(by first | rfl | (simp;done) | (simp [*];done)),H', ⟨Nat.le_refl _⟩,⟨by (with_reducible repeat (first | apply rA_ | apply rN_ | apply rD_));exact Kd.R_mono HO326.out (fun _ hk=>(by simp [Value.ownBlock]))⟩,⟨by first | exact Kd.R_nil _ _ _ _ _ | exact Kd.N_nil _ _ _ _ _ | exact Kd.V_nil _ _ _ _ _ | exact Kd.Q_nil _ _ _ _ _ | exact Kd.S_nil _ _ _ _ _⟩,⟨by exact kZ_ BK319⟩,⟨by exact kZ_ BK323⟩,⟨by repeat first | exact J155.z HI0 | apply J155.set_1 | apply J155.set_2 | refine J155.y ?_⟩,⟨by exact eZ_ HK⟩,⟨by have e0_:=aM_ (J155.ge HI0.out);exact bZ_ HB⟩⟩
 case round =>
  clear H'
  clear hcz8_0 hcz8_1 hcz8_2 hcz8_3 hfz8_0 hfz8_1 hfz8_2 hfz8_3
  obtain ⟨x5_1,x1001_1,x1002_1,x324001_1,u324001,rfl,HA,HK1,HO_4,HO_324001,BK319,BK323,HI0,HK,HB⟩:=hrel
  cases gk with
  | zero=>exact absurd HA.out (by simp [spec_l14Draw.l0])
  | succ k1 =>
   have H:=HA.out
   clear HA
   simp only [spec_l14Draw.l0] at H
   by_cases c11 : x5_1 < (y324.length : Int)
   ·rw [if_pos c11] at H
    have c11b0 : decide (x5_1 < (y324.length : Int)) = true:=decide_eq_true c11
    clear c11
    replace H:=oB_ H
    obtain ⟨⟨t327,t328,t329⟩,A120,H⟩:=H
    replace H : (if t327 = true then (if 0 ≤ x5_1 then ((spec_l1Str.f s0_0 t328 t329 (([(⟨#[]⟩ : ByteArray),(⟨#[49]⟩ : ByteArray),(⟨#[108,111,110,103,101,114,45,97,110,100,45,108,111,110,103,101,114,45,107,101,121]⟩ : ByteArray)] : List ByteArray))).bind fun bt334=>(if (rdOf ByteArray.empty y324 x5_1).size + bt334.1.size ≤ 9223372036854775807 then (if x324001_1.length < 8796093022208 then (spec_l14Draw.l0 k1 y324 (wrap64 (x5_1 + 1)) s0_0 bt334.2.1 bt334.2.2 t320 (x324001_1 ++ [(rdOf ByteArray.empty y324 x5_1) ++ bt334.1])) else (none)) else (none))) else (none)) else (spec_l14Draw.l0 k1 y324 (wrap64 (x5_1 + 1)) s0_0 t328 t329 t320 x324001_1)) = some (r1,r2,r3,r4,r5,r6):=H
    have A12:=aM_ A120
    clear A120
    by_cases c13 : t327 = true
    ·subst c13
     have H1 : (if 0 ≤ x5_1 then ((spec_l1Str.f s0_0 t328 t329 (([(⟨#[]⟩ : ByteArray),(⟨#[49]⟩ : ByteArray),(⟨#[108,111,110,103,101,114,45,97,110,100,45,108,111,110,103,101,114,45,107,101,121]⟩ : ByteArray)] : List ByteArray))).bind fun bt334=>(if (rdOf ByteArray.empty y324 x5_1).size + bt334.1.size ≤ 9223372036854775807 then (if x324001_1.length < 8796093022208 then (spec_l14Draw.l0 k1 y324 (wrap64 (x5_1 + 1)) s0_0 bt334.2.1 bt334.2.2 t320 (x324001_1 ++ [(rdOf ByteArray.empty y324 x5_1) ++ bt334.1])) else (none)) else (none))) else (none)) = some (r1,r2,r3,r4,r5,r6):=by rw [if_pos rfl] at H;exact H
     clear H
     have H:=H1
     clear H1
     by_cases c14 : 0 ≤ x5_1
     ·rw [if_pos c14] at H
      have c14b0 : decide (0 ≤ x5_1) = true:=decide_eq_true c14
      clear c14
      obtain ⟨y331,hy331⟩ : ∃ y_ : List ByteArray,y_ = (([(⟨#[]⟩ : ByteArray),(⟨#[49]⟩ : ByteArray),(⟨#[108,111,110,103,101,114,45,97,110,100,45,108,111,110,103,101,114,45,107,101,121]⟩ : ByteArray)] : List ByteArray)):=⟨_,rfl⟩
      replace H : ((spec_l1Str.f s0_0 t328 t329 y331).bind fun bt334=>(if (rdOf ByteArray.empty y324 x5_1).size + bt334.1.size ≤ 9223372036854775807 then (if x324001_1.length < 8796093022208 then (spec_l14Draw.l0 k1 y324 (wrap64 (x5_1 + 1)) s0_0 bt334.2.1 bt334.2.2 t320 (x324001_1 ++ [(rdOf ByteArray.empty y324 x5_1) ++ bt334.1])) else (none)) else (none))) = some (r1,r2,r3,r4,r5,r6):=by first | (rw [hy331];with_reducible exact H) | (have H2_:=(Option.bind_some _ _).symm.trans H;rw [hy331];with_reducible exact H2_) | (have H2_:=(Option.bind_some _ _).symm.trans H;with_reducible exact H2_) | with_reducible exact H | (rw [hy331];exact H) | exact H
      have Ny331:=aM_ hy331
      clear hy331
      replace H:=oB_ H
      obtain ⟨⟨t334,t335,t336⟩,A150,H⟩:=H
      replace H : (if (rdOf ByteArray.empty y324 x5_1).size + t334.size ≤ 9223372036854775807 then (if x324001_1.length < 8796093022208 then (spec_l14Draw.l0 k1 y324 (wrap64 (x5_1 + 1)) s0_0 t335 t336 t320 (x324001_1 ++ [(rdOf ByteArray.empty y324 x5_1) ++ t334])) else (none)) else (none)) = some (r1,r2,r3,r4,r5,r6):=H
      have A15:=aM_ A150
      clear A150
      by_cases c16 : (rdOf ByteArray.empty y324 x5_1).size + t334.size ≤ 9223372036854775807
      ·rw [if_pos c16] at H
       have c16b0:=eq_true c16
       have c16b1 : decide ((rdOf ByteArray.empty y324 x5_1).size + t334.size ≤ 9223372036854775807) = true:=decide_eq_true c16
       try have c16b2 : (9223372036854775807 < (rdOf ByteArray.empty y324 x5_1).size + t334.size) = False:=eq_false (Nat.not_lt.2 c16)
       by_cases c17 : x324001_1.length < 8796093022208
       ·rw [if_pos c17] at H
        have LMc17:=aM_ c17
        clear c17
        obtain ⟨y337,hy337⟩ : ∃ y_ : List ByteArray,y_ = (x324001_1 ++ [(rdOf ByteArray.empty y324 x5_1) ++ t334]):=⟨_,rfl⟩
        replace H : (spec_l14Draw.l0 k1 y324 (wrap64 (x5_1 + 1)) s0_0 t335 t336 t320 y337) = some (r1,r2,r3,r4,r5,r6):=by first | (rw [hy337];with_reducible exact H) | (have H2_:=(Option.bind_some _ _).symm.trans H;rw [hy337];with_reducible exact H2_) | (have H2_:=(Option.bind_some _ _).symm.trans H;with_reducible exact H2_) | with_reducible exact H | (rw [hy337];exact H) | exact H
        have Ny337:=aM_ hy337
        clear hy337
        have H':=aM_ H
        clear H
        obtain ⟨Ao18,co18,eo18⟩:=Kd.R_slice HO_4.out
        subst eo18
        try go_wp2_with (first | ((with_reducible refine gate_callee (f:=107) rfl ?_);refine goesL_ (some 18) rfl rfl Try.func107 (by kernel_rfl) rfl #[.pointer (some ⟨g,0,none⟩),.int .i64 2] rfl (by (try simp only [mA_,mC_,mN_]);first | done | rfl | (simp only [lD_,lT_];rfl)) ?_;(with_reducible refine (spec_l1Once.calls g s0_0 x1001_1 x1002_1 2 true t328 t329 w0 _ ?side1 ?side2 A12.out).mono ?_);(case side1=>repeat first | exact J155.z HI0 | apply J155.set_1 | apply J155.set_2 | refine J155.y ?_);(case side2=>have e0_:=aM_ (J155.ge HI0.out);exact bZ_ HB);rintro e w19 ⟨rfl,hi,hb,hk⟩;refine ⟨_,rfl,?_⟩;have n0_:=aM_ (Kd.R_mono (Kd.R_keep (J155.apart (show J155 w0 _ g s0_0 x1001_1 x1002_1 from by repeat first | exact J155.z HI0 | apply J155.set_1 | apply J155.set_2 | refine J155.y ?_) (by exact rZ_ HO_4) (by decide)) hk (fun _ h=>h.2)) (fun _ h=>h.1));have n1_:=aM_ (Kd.R_mono (Kd.R_keep (J155.apart (show J155 w0 _ g s0_0 x1001_1 x1002_1 from by repeat first | exact J155.z HI0 | apply J155.set_1 | apply J155.set_2 | refine J155.y ?_) (by exact rZ_ HO_324001) (by decide)) hk (fun _ h=>h.2)) (fun _ h=>h.1));have n2_:=aM_ (KeepBut.blk hk (g':=gb319) (o:=.cells #[.bool false,.slice none 0 0,.slice none 0 0,.slice none 0 0] 29 (0,0)) (by exact kZ_ BK319) NB319_0.out (by simp));have n3_:=aM_ (KeepBut.blk hk (g':=gb323) (o:=.cells #[.bool t320,u324001,.slice none 0 0,.slice none 0 0] 29 (0,0)) (by exact kZ_ BK323) NB323_0.out (by simp));have n4_:=aM_ (KeepBut.trans (by exact eZ_ HK) hk (.inl rfl));have n5_:=aM_ (hb);have n6_:=aM_ (hi);clear HO_4 HO_324001 BK319 BK323 HK HB HI0;have HO_4:=n0_;have HO_324001:=n1_;have BK319:=n2_;have BK323:=n3_;have HK:=n4_;have HB:=n5_;have HI0:=n6_;clear n0_ n1_ n2_ n3_ n4_ n5_ n6_ hb hk hi))
        have n0_:=aM_ (rD_ HO_4.out)
        have n1_:=aM_ (rD_ HO_324001.out)
        have n2_:=aM_ (kD_ BK319.out)
        have n3_:=aM_ (kD_ BK323.out)
        have n4_:=aM_ (J155.drew HI0.out)
        have n5_:=aM_ (eD_ HK.out)
        have n6_:=aM_ (bD_ HB.out)
        clear HO_4 HO_324001 BK319 BK323 HI0 HK HB
        have HO_4:=n0_
        have HO_324001:=n1_
        have BK319:=n2_
        have BK323:=n3_
        have HI0:=n4_
        have HK:=n5_
        have HB:=n6_
        clear n0_ n1_ n2_ n3_ n4_ n5_ n6_
        have p330 : 0 ≤ (x5_1 : Int):=oT_ (by first | (with_reducible assumption) | assumption)
        have q330 : x5_1 < (y324.length : Int):=oT_ (by first | (with_reducible assumption) | assumption)
        obtain ⟨ad330,e330,hx330_0⟩:=Kd.at_string (Kd.R_reads' HO_4.out).2.2 x5_1 p330 q330
        cases e330
        replace p330:=eq_true p330
        replace q330:=eq_true q330
        refine start_ (n:=14) (S:=fun w'=>w'.cell? ⟨gb323,0,none⟩ = some (.bool t320) ∧ w'.cell? ⟨gb323,1,none⟩ = some (u324001) ∧ w'.cell? ⟨gb323,2,none⟩ = some (.slice none 0 0) ∧ w'.cell? ⟨gb323,3,none⟩ = some (.slice none 0 0) ∧ w'.cell? (ad330.add (x5_1).toNat) = some (.string (rdOf ByteArray.empty y324 x5_1))) (ds:=[11,13]) (tb_ 0 14) (by kernel_rfl) rfl rfl ⟨(kC_ BK323.out 0).trans rfl,(kC_ BK323.out 1).trans rfl,(kC_ BK323.out 2).trans rfl,(kC_ BK323.out 3).trans rfl,hx330_0⟩ (fun hHeld=>?_);refine with_tabW spec_l14Draw.tab7 spec_l14Draw.bits7 (fun HT_ HW_=>?_)
        generalize w19.drew = w20 at HO_4 HO_324001 BK319 BK323 HI0 HK HB hx330_0 hHeld ⊢
        refine pure_ (i:=0) (N:=some 19) (v:=?_) (a':=?_) (tb_ 1 13) rfl rfl (any_of HT_.out (by kernel_rfl)) (fun _ _ _ h=>h) (Or.inl ⟨by rfl,?_⟩) ?_ ?_
        rotate_left
        ·intro w'
         go_simp
         with_reducible rfl
        rotate_left
        ·simp only [Act.put,sI_,sZ_,sS_,i64_w,i32_w]
         rfl
        refine pure_ (i:=2) (N:=some 21) (v:=?_) (a':=?_) #[true,false,true,false,false,false,false,false,false,false,false,false,false,false] rfl rfl (any_of HT_.out (by kernel_rfl)) (fun _ _ _ h=>h) (Or.inl ⟨by rfl,?_⟩) ?_ ?_
        rotate_left
        ·intro w'
         go_simp
         with_reducible rfl
        rotate_left
        ·simp only [Act.put,sI_,sZ_,sS_,i64_w,i32_w]
         rfl
        refine pure_ (i:=3) (N:=some 22) (v:=?_) (a':=?_) #[true,false,true,true,false,false,false,false,false,false,false,false,false,false] rfl rfl (any_of HT_.out (by kernel_rfl)) (fun _ _ _ h=>h) (Or.inl ⟨by rfl,?_⟩) ?_ ?_
        rotate_left
        ·intro w'
         go_simp
         with_reducible rfl
        rotate_left
        ·simp only [Act.put,sI_,sZ_,sS_,i64_w,i32_w]
         rfl
        refine pure_ (i:=4) (N:=some 23) (v:=?_) (a':=?_) #[true,false,true,true,true,false,false,false,false,false,false,false,false,false] rfl rfl (any_of HT_.out (by kernel_rfl)) (fun _ _ _ h=>h) (Or.inl ⟨by rfl,?_⟩) ?_ ?_
        rotate_left
        ·intro w'
         go_simp
         with_reducible rfl
        rotate_left
        ·simp only [Act.put,sI_,sZ_,sS_,i64_w,i32_w]
         rfl
        refine pure_ (i:=6) (N:=some 25) (v:=?_) (a':=?_) #[true,false,true,true,true,false,true,false,false,false,false,false,false,false] rfl rfl (any_of HT_.out (by kernel_rfl)) (fun _ _ _ h=>h) (Or.inl ⟨by rfl,?_⟩) ?_ ?_
        rotate_left
        ·intro w'
         go_simp
         with_reducible rfl
        rotate_left
        ·simp only [Act.put,sI_,sZ_,sS_,i64_w,i32_w]
         rfl
        refine take_ (i:=1) (N:=some 20) (v:=?_) (a':=?_) #[true,true,true,true,true,false,true,false,false,false,false,false,false,false] rfl rfl (take_ofW HT_.out HW_.out (by kernel_rfl)) (fun _ _ _ h=>h) (Or.inl ⟨by rfl,?_⟩) hHeld ?_ ?_
        rotate_left
        ·rintro w' ⟨s0,s1,s2,s3,s4⟩
         go_simp
         with_reducible rfl
        rotate_left
        ·simp only [Act.put,sI_,sZ_,sS_,i64_w,i32_w]
         rfl
        refine take_ (i:=5) (N:=some 24) (v:=?_) (a':=?_) (tb_ 7 7) rfl rfl (take_ofW HT_.out HW_.out (by kernel_rfl)) (fun _ _ _ h=>h) (Or.inl ⟨by rfl,?_⟩) hHeld ?_ ?_
        rotate_left
        ·rintro w' ⟨s0,s1,s2,s3,s4⟩
         go_simp
         with_reducible rfl
        rotate_left
        ·simp only [Act.put,sI_,sZ_,sS_,i64_w,i32_w]
         rfl
        refine one_ (i:=7) (N:=some 26) (tb_ 8 6) rfl rfl (one_of HT_.out (by kernel_rfl)) (by decide) (fun K hK=>?_)
        refine Kd.R_lit_step Kd.string _ 9 ?hg (N:=26) ?hd (xs:=([(⟨#[]⟩ : ByteArray),(⟨#[49]⟩ : ByteArray),(⟨#[108,111,110,103,101,114,45,97,110,100,45,108,111,110,103,101,114,45,107,101,121]⟩ : ByteArray)] : List ByteArray)) (inner:=[.string (⟨#[]⟩ : ByteArray),.string (⟨#[49]⟩ : ByteArray),.string (⟨#[108,111,110,103,101,114,45,97,110,100,45,108,111,110,103,101,114,45,107,101,121]⟩ : ByteArray)]) (ok:=fun _=>True) (okp:=fun _=>True) ?hr ?hp (fun _ hk=>hk) trivial (Below.refl _ _) (Nat.le_refl _) (by simp) ?_;(case hd=>rfl);(case hg=>rfl);(case hr=>first | (go_simp;done) | (go_simp;rfl));(case hp=>exact (Reps.one (show Kd.M Kd.string _ _ _ (⟨#[]⟩ : ByteArray) [.string (⟨#[]⟩ : ByteArray)] from rfl) (Reps.one (show Kd.M Kd.string _ _ _ (⟨#[49]⟩ : ByteArray) [.string (⟨#[49]⟩ : ByteArray)] from rfl) (Reps.one (show Kd.M Kd.string _ _ _ (⟨#[108,111,110,103,101,114,45,97,110,100,45,108,111,110,103,101,114,45,107,101,121]⟩ : ByteArray) [.string (⟨#[108,111,110,103,101,114,45,97,110,100,45,108,111,110,103,101,114,45,107,101,121]⟩ : ByteArray)] from rfl) (Reps.none _ _)))))
        intro v332 w21 ho22 hb hg_ hnew_
        have HS4_:=(hb.cell (wL_ _ _ (hHeld.2.2.2.2))).trans (hHeld.2.2.2.2)
        clear hg_ hnew_
        (first | rw [← Ny331.out] at ho22 | (simp only [Int.reduceToNat] at ho22;rw [← Ny331.out] at ho22))
        have n0_:=aM_ (Kd.R_elder' (by exact rZ_ HO_4) (Kd.R_base ho22) hb)
        have n1_:=aM_ (Kd.R_elder' (by exact rZ_ HO_324001) (Kd.R_base ho22) hb)
        have n2_:=aM_ (Kd.R_lower (Kd.R_new' (Kd.R_new' ho22 (Kd.R_lt (by exact rZ_ HO_4))) (Kd.R_lt (by exact rZ_ HO_324001))) (keep_size (w:=w) (g:=g) (row:=none) (by exact eZ_ HK)))
        have n3_:=aM_ (blk_below (g:=gb319) (o:=.cells #[.bool false,.slice none 0 0,.slice none 0 0,.slice none 0 0] 29 (0,0)) (by exact kZ_ BK319) hb)
        have n4_:=aM_ (blk_below (g:=gb323) (o:=.cells #[.bool t320,u324001,.slice none 0 0,.slice none 0 0] 29 (0,0)) (by exact kZ_ BK323) hb)
        have n5_:=aM_ (J155.below (by repeat first | exact J155.z HI0 | apply J155.set_1 | apply J155.set_2 | refine J155.y ?_) hb)
        have n6_:=aM_ (KeepBut.trans (by exact eZ_ HK) (KeepBut.of_below hb g none) (.inl rfl))
        have n7_:=aM_ (bT_ (by have e0_:=aM_ (J155.ge HI0.out);exact bZ_ HB) hb)
        clear HO_4 HO_324001 BK319 BK323 HI0 HK HB
        have HO_4:=n0_
        have HO_324001:=n1_
        have HO333:=n2_
        have BK319:=n3_
        have BK323:=n4_
        have HI0:=n5_
        have HK:=n6_
        have HB:=n7_
        clear n0_ n1_ n2_ n3_ n4_ n5_ n6_ n7_ hb ho22
        obtain ⟨Ao23,co23,eo23⟩:=Kd.R_slice HO333.out
        (first | subst eo23 | (injection eo23 with f1_ f2_ f3_;have f4_:=f1_.symm;have f5_:=f3_.symm;clear f1_ f2_ f3_;subst f4_;subst f5_))
        refine hK.out _ _ ⟨(kC_ BK323.out 0).trans rfl,(kC_ BK323.out 1).trans rfl,(kC_ BK323.out 2).trans rfl,(kC_ BK323.out 3).trans rfl,HS4_⟩ (fun hHeld=>?_)
        clear hK K
        refine norm_ (a':=?_) ?_ ?_
        rotate_left
        ·show Act.put _ (some 26) _ = _
         simp only [Act.put,sI_,sZ_,sS_,i64_w,i32_w]
         rfl
        refine one_ (i:=8) (N:=some 27) (tb_ 9 5) rfl rfl (one_of HT_.out (by kernel_rfl)) (by decide) (fun K hK=>?_)
        refine goes_ Try.func124 (by kernel_rfl) rfl #[.pointer (some ⟨g,0,none⟩),.slice Ao23 y331.length co23] (by rfl) rfl rfl (by (try simp only [mA_,mC_,mN_]);first | done | rfl | (simp only [lD_,lT_];rfl)) ?_
        with_reducible refine (spec_l1Str.calls g s0_0 t328 t329 _ _ y331 t334 t335 t336 w0 _ ?side1 ?side2 ?side3 ?side4 ?side5 A15.out).mono ?_
        (case side1=>repeat first | exact J155.z HI0 | apply J155.set_1 | apply J155.set_2 | refine J155.y ?_)
        (case side2=>have e0_:=aM_ (J155.ge HI0.out);exact bZ_ HB)
        (case side3=>repeat (first | exact (Kd.R_reads' HO333.out).2.2 | (with_reducible refine cA_ ?_ _) | (with_reducible refine cN_ ?_ _) | (with_reducible refine cD_ ?_)))
        (case side4=>exact (Kd.R_reads' HO333.out).2.1)
        (case side5=>exact far_slice (J155.own_ne HI0.out HO333.out (by decide)))
        rintro e w24 ⟨rfl,hi,hb,hk⟩
        have HS4_:=keep_cell hk (hHeld.2.2.2.2) (by first | (rw [add_block];exact Kd.own_blk (J155.own_ne HI0.out HO_4.out (by decide))) | (show (Addr.add _ _).block ≠ _;rw [add_block];exact Kd.own_blk (J155.own_ne HI0.out HO_4.out (by decide))) | exact Kd.own_blk (J155.own_ne HI0.out HO_4.out (by decide)))
        refine ⟨_,rfl,?_⟩
        have n0_:=aM_ (Kd.R_mono (Kd.R_keep (J155.apart (show J155 w0 _ g s0_0 t328 t329 from by repeat first | exact J155.z HI0 | apply J155.set_1 | apply J155.set_2 | refine J155.y ?_) (by exact rZ_ HO_4) (by decide)) hk (fun _ h=>h.2)) (fun _ h=>h.1))
        have n1_:=aM_ (Kd.R_mono (Kd.R_keep (J155.apart (show J155 w0 _ g s0_0 t328 t329 from by repeat first | exact J155.z HI0 | apply J155.set_1 | apply J155.set_2 | refine J155.y ?_) (by exact rZ_ HO_324001) (by decide)) hk (fun _ h=>h.2)) (fun _ h=>h.1))
        have n2_:=aM_ (KeepBut.blk hk (g':=gb319) (o:=.cells #[.bool false,.slice none 0 0,.slice none 0 0,.slice none 0 0] 29 (0,0)) (by exact kZ_ BK319) NB319_0.out (by simp))
        have n3_:=aM_ (KeepBut.blk hk (g':=gb323) (o:=.cells #[.bool t320,u324001,.slice none 0 0,.slice none 0 0] 29 (0,0)) (by exact kZ_ BK323) NB323_0.out (by simp))
        have n4_:=aM_ (Kd.R_mono (Kd.R_keep (J155.apart (show J155 w0 _ g s0_0 t328 t329 from by repeat first | exact J155.z HI0 | apply J155.set_1 | apply J155.set_2 | refine J155.y ?_) (by exact rZ_ HO333) (by decide)) hk (fun _ h=>h.2)) (fun _ h=>h.1))
        have n5_:=aM_ (KeepBut.trans (by exact eZ_ HK) hk (.inl rfl))
        have n6_:=aM_ (hb)
        have n7_:=aM_ (hi)
        clear HO_4 HO_324001 BK319 BK323 HO333 HK HB HI0
        have HO_4:=n0_
        have HO_324001:=n1_
        have BK319:=n2_
        have BK323:=n3_
        have HO333:=n4_
        have HK:=n5_
        have HB:=n6_
        have HI0:=n7_
        clear n0_ n1_ n2_ n3_ n4_ n5_ n6_ n7_ hb
        skip
        clear hk hi
        refine hK.out _ _ ⟨(kC_ BK323.out 0).trans rfl,(kC_ BK323.out 1).trans rfl,(kC_ BK323.out 2).trans rfl,(kC_ BK323.out 3).trans rfl,HS4_⟩ (fun hHeld=>?_)
        clear hK K
        refine norm_ (a':=?_) ?_ ?_
        rotate_left
        ·show Act.put _ (some 27) _ = _
         simp only [Act.put,sI_,sZ_,sS_,i64_w,i32_w]
         rfl
        refine pure_ (i:=9) (N:=some 28) (v:=?_) (a':=?_) (tb_ 10 4) rfl rfl (any_of HT_.out (by kernel_rfl)) (fun _ _ _ h=>h) (Or.inl ⟨by rfl,?_⟩) ?_ ?_
        rotate_left
        ·intro w'
         go_simp
         with_reducible rfl
        rotate_left
        ·simp only [Act.put,sI_,sZ_,sS_,i64_w,i32_w]
         rfl
        refine one_ (i:=10) (N:=some 29) (tb_ 11 3) rfl rfl (one_of HT_.out (by kernel_rfl)) (by decide) (fun K hK=>?_)
        refine value_ (w1:=?_) (v:=?_) (by rfl) rfl ?_ ?_
        rotate_left 2
        ·go_simp
         constructor
         ·rfl
         ·rfl
        refine hK.out _ _ ⟨(kC_ (kA_ BK323.out _) 0).trans rfl,(kC_ (kA_ BK323.out _) 1).trans rfl,(kC_ (kA_ BK323.out _) 2).trans rfl,(kC_ (kA_ BK323.out _) 3).trans rfl,(World.cell?_alloc_lt _ _ _ (wL_ _ _ (hHeld.2.2.2.2))).trans (hHeld.2.2.2.2)⟩ (fun hHeld=>?_)
        clear hK K
        refine norm_ (a':=?_) ?_ ?_
        rotate_left
        ·show Act.put _ (some 29) _ = _
         simp only [Act.put,sI_,sZ_,sS_,i64_w,i32_w]
         rfl
        refine last_ (i:=11) (N:=some 30) (tb_ 12 2) rfl rfl (one_of HT_.out (by kernel_rfl)) (by decide) (fun K hK=>?_)
        refine Kd.R_append_step Kd.string w.heap.size (by rfl) (.tmp 20) (.tmp 29) 22 9 (.string ⟨#[]⟩) 16 rfl Try.underlying22 info9 rfl (by decide) (by omega) u324001 x324001_1 ((rdOf ByteArray.empty y324 x5_1) ++ t334) [.string ((rdOf ByteArray.empty y324 x5_1) ++ t334)] (fun k_=>some k_ ≠ (.slice (some ad330) y324.length co18 : Value).ownBlock ∧ some k_ ≠ (.slice Ao23 y331.length co23 : Value).ownBlock) (fun _=>False) rfl rfl ?aP (fun _ hk=>hk.elim) ?aF ?aO (Below.refl _ _) ?aS ?aL ?_
        (case aP=>exact rfl)
        (case aF=>exact (fun k_ hk=>⟨Kd.fresh' (Kd.R_lt (by exact rZ_ HO_4)) k_ hk,Kd.fresh' (Kd.R_lt (by exact rZ_ HO333)) k_ hk⟩))
        (case aO=>exact (by exact rZ_ HO_324001))
        (case aS=>exact (keep_size (w:=w) (g:=g) (row:=none) (by exact eZ_ HK)))
        (case aL=>have:=LMc17.out;omega)
        intro v338 w25 ho hb hg hat
        rw [← Ny337.out] at ho
        have n0_:=aM_ (Kd.R_after (ok:=(fun k_=>some k_ ≠ (.slice Ao23 y331.length co23 : Value).ownBlock)) (by (with_reducible repeat (first | apply rA_ | apply rN_ | apply rD_));exact Kd.R_mono HO_4.out (fun _ hk=>⟨hk.2,hk.1⟩)) hg hat)
        have n1_:=aM_ (blk_grown (g:=gb319) (o:=.cells #[.bool false,.slice none 0 0,.slice none 0 0,.slice none 0 0] 29 (0,0)) (by exact kZ_ BK319) hg (Kd.R_ne HO_324001.out BK319.out (by decide)))
        have n2_:=aM_ (blk_grown (g:=gb323) (o:=.cells #[.bool t320,u324001,.slice none 0 0,.slice none 0 0] 29 (0,0)) (by exact kZ_ BK323) hg (Kd.R_ne HO_324001.out BK323.out (by decide)))
        have n3_:=aM_ (J155.grown (by repeat first | exact J155.z HI0 | apply J155.set_1 | apply J155.set_2 | refine J155.y ?_) hg (J155.own_ne HI0.out HO_324001.out (by decide)))
        have n4_:=aM_ (Kd.R_after (ok:=(fun k_=>some k_ ≠ (.slice (some ad330) y324.length co18 : Value).ownBlock)) (by (with_reducible repeat (first | apply rA_ | apply rN_ | apply rD_));exact Kd.R_mono HO333.out (fun _ hk=>⟨hk.1.2,hk.2⟩)) hg hat)
        have n5_:=aM_ (below_weaken (by have e0_:=aM_ (J155.ge HI0.out);exact bZ_ HB) HL.out hb)
        have n6_:=aM_ (KeepBut.trans (by exact eZ_ HK) (KeepBut.of_grown hg g) (Kd.R_base2 HO_324001.out))
        have n7_:=aM_ (ho)
        clear HO_4 BK319 BK323 HI0 HO333 HB HK HO_324001
        have HO_4:=n0_
        have BK319:=n1_
        have BK323:=n2_
        have HI0:=n3_
        have HO333:=n4_
        have HB:=n5_
        have HK:=n6_
        have HO339:=n7_
        clear n0_ n1_ n2_ n3_ n4_ n5_ n6_ n7_ ho hb hg hat
        obtain ⟨Ao26,co26,eo26⟩:=Kd.R_slice HO339.out
        (first | subst eo26 | (injection eo26 with f1_ f2_ f3_;have f4_:=f1_.symm;have f5_:=f3_.symm;clear f1_ f2_ f3_;subst f4_;subst f5_))
        refine hK.out _ _ ?_
        clear hK K
        refine norm_ (a':=?_) ?_ ?_
        rotate_left
        ·show Act.put _ (some 30) _ = _
         simp only [Act.put,sI_,sZ_,sS_,i64_w,i32_w]
         rfl
        refine pure_ (i:=12) (N:=some 31) (v:=?_) (a':=?_) (tb_ 13 1) rfl rfl (any_of HT_.out (by kernel_rfl)) (fun _ _ _ h=>h) (Or.inl ⟨by rfl,?_⟩) ?_ ?_
        rotate_left
        ·intro w'
         go_simp
         with_reducible rfl
        rotate_left
        ·simp only [Act.put,sI_,sZ_,sS_,i64_w,i32_w]
         rfl
        refine last_ (i:=13) (N:=none) (tb_ 14 0) rfl rfl (one_of HT_.out (by kernel_rfl)) (by decide) (fun K hK=>?_)
        have hs27 : w25.cell? ⟨gb323,1,none⟩ = some (u324001):=(kC_ BK323.out 1).trans rfl
        have hfs27:=kF_ BK323.out 1
        have hns27_0:=NB319_323.out
        have hms27_0:=NB323_319.out
        refine skip_ (w1:=?_) (by rfl) rfl ?_ ?_
        rotate_left
        ·go_simp
         rfl
        refine hK.out _ _ ?_
        clear hK K
        refine done_ (done_of HT_.out (by kernel_rfl)) ?_
        try go_wp2
        go_roundg k1
        case measure=>have:=HK1.out;omega
        case rel=>exact ⟨(wrap64 (x5_1 + 1)),(t335),(t336),(y337),(.slice Ao26 y337.length co26),(by first | rfl | (simp;done) | (simp [*];done)),H', ⟨by have:=HK1.out;omega⟩,⟨by (with_reducible repeat (first | apply rA_ | apply rN_ | apply rD_));exact Kd.R_mono (Kd.R_far (p:=⟨gb323,1,none⟩) (Kd.R_types HO_4.out BK323.out (by decide)) (fun _ hk=>hk.2) (.slice Ao26 y337.length co26)) (fun _ hk=>hk.1.2)⟩,⟨by (with_reducible repeat (first | apply rA_ | apply rN_ | apply rD_));exact Kd.R_mono (Kd.R_far (p:=⟨gb323,1,none⟩) (Kd.R_types HO339.out BK323.out (by decide)) (fun _ hk=>hk.2) (.slice Ao26 y337.length co26)) (fun _ hk=>hk.1.1)⟩,⟨by exact kW_ BK319⟩,⟨by (with_reducible repeat (first | refine kN_ ?_ _ | refine kD_ ?_ | refine kA_ ?_ _));refine kP_ (cs:=#[.bool t320,u324001,.slice none 0 0,.slice none 0 0]) ?_ 1 _ rfl;exact kZ_ BK323⟩,⟨by repeat first | exact J155.z HI0 | apply J155.set_1 | apply J155.set_2 | refine J155.y ?_⟩,⟨by exact eZ_ HK⟩,⟨by have e0_:=aM_ (J155.ge HI0.out);exact bZ_ HB⟩⟩
       ·rw [if_neg c17] at H
        exact absurd H (by simp)
      ·rw [if_neg c16] at H
       exact absurd H (by simp)
     ·rw [if_neg c14] at H
      exact absurd H (by simp)
    ·replace c13:=Bool.eq_false_iff.mpr c13
     subst c13
     have H1 : (spec_l14Draw.l0 k1 y324 (wrap64 (x5_1 + 1)) s0_0 t328 t329 t320 x324001_1) = some (r1,r2,r3,r4,r5,r6):=by rw [if_neg (show ¬ (false = true) by decide)] at H;exact H
     clear H
     have H:=H1
     clear H1
     have H':=aM_ H
     clear H
     obtain ⟨Ao28,co28,eo28⟩:=Kd.R_slice HO_4.out
     subst eo28
     go_wp2_with (first | ((with_reducible refine gate_callee (f:=107) rfl ?_);refine goesL_ (some 18) rfl rfl Try.func107 (by kernel_rfl) rfl #[.pointer (some ⟨g,0,none⟩),.int .i64 2] rfl (by (try simp only [mA_,mC_,mN_]);first | done | rfl | (simp only [lD_,lT_];rfl)) ?_;(with_reducible refine (spec_l1Once.calls g s0_0 x1001_1 x1002_1 2 false t328 t329 w0 _ ?side1 ?side2 A12.out).mono ?_);(case side1=>repeat first | exact J155.z HI0 | apply J155.set_1 | apply J155.set_2 | refine J155.y ?_);(case side2=>have e0_:=aM_ (J155.ge HI0.out);exact bZ_ HB);rintro e w29 ⟨rfl,hi,hb,hk⟩;refine ⟨_,rfl,?_⟩;have n0_:=aM_ (Kd.R_mono (Kd.R_keep (J155.apart (show J155 w0 _ g s0_0 x1001_1 x1002_1 from by repeat first | exact J155.z HI0 | apply J155.set_1 | apply J155.set_2 | refine J155.y ?_) (by exact rZ_ HO_4) (by decide)) hk (fun _ h=>h.2)) (fun _ h=>h.1));have n1_:=aM_ (Kd.R_mono (Kd.R_keep (J155.apart (show J155 w0 _ g s0_0 x1001_1 x1002_1 from by repeat first | exact J155.z HI0 | apply J155.set_1 | apply J155.set_2 | refine J155.y ?_) (by exact rZ_ HO_324001) (by decide)) hk (fun _ h=>h.2)) (fun _ h=>h.1));have n2_:=aM_ (KeepBut.blk hk (g':=gb319) (o:=.cells #[.bool false,.slice none 0 0,.slice none 0 0,.slice none 0 0] 29 (0,0)) (by exact kZ_ BK319) NB319_0.out (by simp));have n3_:=aM_ (KeepBut.blk hk (g':=gb323) (o:=.cells #[.bool t320,u324001,.slice none 0 0,.slice none 0 0] 29 (0,0)) (by exact kZ_ BK323) NB323_0.out (by simp));have n4_:=aM_ (KeepBut.trans (by exact eZ_ HK) hk (.inl rfl));have n5_:=aM_ (hb);have n6_:=aM_ (hi);clear HO_4 HO_324001 BK319 BK323 HK HB HI0;have HO_4:=n0_;have HO_324001:=n1_;have BK319:=n2_;have BK323:=n3_;have HK:=n4_;have HB:=n5_;have HI0:=n6_;clear n0_ n1_ n2_ n3_ n4_ n5_ n6_ hb hk hi))
     go_roundg k1
     case measure=>have:=HK1.out;omega
     case rel=>exact ⟨(wrap64 (x5_1 + 1)),(t328),(t329),(x324001_1),(u324001),(by first | rfl | (simp;done) | (simp [*];done)),H', ⟨by have:=HK1.out;omega⟩,⟨by exact rZ_ HO_4⟩,⟨by exact rZ_ HO_324001⟩,⟨by exact kZ_ BK319⟩,⟨by exact kZ_ BK323⟩,⟨by repeat first | exact J155.z HI0 | apply J155.set_1 | apply J155.set_2 | refine J155.y ?_⟩,⟨by exact eZ_ HK⟩,⟨by have e0_:=aM_ (J155.ge HI0.out);exact bZ_ HB⟩⟩
   ·rw [if_neg c11] at H
    have c11b0 : decide (x5_1 < (y324.length : Int)) = false:=decide_eq_false c11
    clear c11
    have H':=aM_ H
    clear H
    obtain ⟨Ao30,co30,eo30⟩:=Kd.R_slice HO_4.out
    subst eo30
    go_wp2
    (try simp only [Act.put,sI_,sS_,sZ_])
    go_loopg [6] k1 (fun kq v6 w'=>∃ (x6_2 : Int) (x1001_2 : Int) (x1002_2 : Int) (x324002_2 : List ByteArray) (x324003_2 : List Int) (u324002 : Value) (u324003 : Value),v6 = .int .i64 x6_2 ∧ Aside0 (spec_l14Draw.l1 kq x6_2 s0_0 x1001_2 x1002_2 t320 x324001_1 x324002_2 x324003_2 = some (r1,r2,r3,r4,r5,r6)) ∧ Aside0 (kq ≤ k1) ∧ Aside0 (Kd.R Kd.string 9 w' w.heap.size (fun k_=>some k_ ≠ (u324002 : Value).ownBlock) u324001 x324001_1) ∧ Aside0 (Kd.R Kd.string 9 w' w.heap.size (fun k_=>some k_ ≠ (u324001 : Value).ownBlock) u324002 x324002_2) ∧ Aside0 (Kd.R (Kd.int .i64) 3 w' w.heap.size (fun _=>True) u324003 x324003_2) ∧ Aside0 (w'.heap[gb319]? = some (.cells #[.bool false,(.slice none 0 0),(.slice none 0 0),(.slice none 0 0)] 29 (0,0))) ∧ Aside0 (w'.heap[gb323]? = some (.cells #[.bool t320,u324001,u324002,u324003] 29 (0,0))) ∧ Aside0 (J155 w0 w' g s0_0 x1001_2 x1002_2) ∧ Aside0 (KeepBut w w' g none) ∧ Aside0 (Below w0.heap.size w0 w'))
    case atStart=>exact ⟨(0),(x1001_1),(x1002_1),(([] : List ByteArray)),(([] : List Int)),(.slice none 0 0),(.slice none 0 0),(by first | rfl | (simp;done) | (simp [*];done)),H', ⟨Nat.le_refl _⟩,⟨by (with_reducible repeat (first | apply rA_ | apply rN_ | apply rD_));exact Kd.R_mono HO_324001.out (fun _ hk=>(by simp [Value.ownBlock]))⟩,⟨by first | exact Kd.R_nil _ _ _ _ _ | exact Kd.N_nil _ _ _ _ _ | exact Kd.V_nil _ _ _ _ _ | exact Kd.Q_nil _ _ _ _ _ | exact Kd.S_nil _ _ _ _ _⟩,⟨by first | exact Kd.R_nil _ _ _ _ _ | exact Kd.N_nil _ _ _ _ _ | exact Kd.V_nil _ _ _ _ _ | exact Kd.Q_nil _ _ _ _ _ | exact Kd.S_nil _ _ _ _ _⟩,⟨by exact kZ_ BK319⟩,⟨by exact kZ_ BK323⟩,⟨by repeat first | exact J155.z HI0 | apply J155.set_1 | apply J155.set_2 | refine J155.y ?_⟩,⟨by exact eZ_ HK⟩,⟨by have e0_:=aM_ (J155.ge HI0.out);exact bZ_ HB⟩⟩
    case round =>
     clear H'
     clear c11b0
     obtain ⟨x6_2,x1001_2,x1002_2,x324002_2,x324003_2,u324002,u324003,rfl,HA,HK2,HO_324001,HO_324002,HO_324003,BK319,BK323,HI0,HK,HB⟩:=hrel
     cases gk with
     | zero=>exact absurd HA.out (by simp [spec_l14Draw.l1])
     | succ k2 =>
      have H:=HA.out
      clear HA
      simp only [spec_l14Draw.l1] at H
      by_cases c31 : x6_2 ≤ (x324001_1.length : Int)
      ·rw [if_pos c31] at H
       have c31b0 : decide (x6_2 ≤ (x324001_1.length : Int)) = true:=decide_eq_true c31
       clear c31
       by_cases c32 : t320 = true
       ·subst c32
        have H1 : (if x6_2 < (x324001_1.length : Int) then ((spec_l1Str.f s0_0 x1001_2 x1002_2 (([(⟨#[]⟩ : ByteArray),(⟨#[118]⟩ : ByteArray),(⟨#[118,97,108,117,101]⟩ : ByteArray)] : List ByteArray))).bind fun bt343=>(if x324002_2.length < 8796093022208 then (spec_l14Draw.l1 k2 (wrap64 (x6_2 + 1)) s0_0 bt343.2.1 bt343.2.2 true x324001_1 (x324002_2 ++ [bt343.1]) x324003_2) else (none))) else (spec_l14Draw.l1 k2 (wrap64 (x6_2 + 1)) s0_0 x1001_2 x1002_2 true x324001_1 x324002_2 x324003_2)) = some (r1,r2,r3,r4,r5,r6):=by rw [if_pos rfl] at H;exact H
        clear H
        have H:=H1
        clear H1
        by_cases c33 : x6_2 < (x324001_1.length : Int)
        ·rw [if_pos c33] at H
         have c33b0 : decide (x6_2 < (x324001_1.length : Int)) = true:=decide_eq_true c33
         clear c33
         obtain ⟨y340,hy340⟩ : ∃ y_ : List ByteArray,y_ = (([(⟨#[]⟩ : ByteArray),(⟨#[118]⟩ : ByteArray),(⟨#[118,97,108,117,101]⟩ : ByteArray)] : List ByteArray)):=⟨_,rfl⟩
         replace H : ((spec_l1Str.f s0_0 x1001_2 x1002_2 y340).bind fun bt343=>(if x324002_2.length < 8796093022208 then (spec_l14Draw.l1 k2 (wrap64 (x6_2 + 1)) s0_0 bt343.2.1 bt343.2.2 true x324001_1 (x324002_2 ++ [bt343.1]) x324003_2) else (none))) = some (r1,r2,r3,r4,r5,r6):=by first | (rw [hy340];with_reducible exact H) | (have H2_:=(Option.bind_some _ _).symm.trans H;rw [hy340];with_reducible exact H2_) | (have H2_:=(Option.bind_some _ _).symm.trans H;with_reducible exact H2_) | with_reducible exact H | (rw [hy340];exact H) | exact H
         have Ny340:=aM_ hy340
         clear hy340
         replace H:=oB_ H
         obtain ⟨⟨t343,t344,t345⟩,A340,H⟩:=H
         replace H : (if x324002_2.length < 8796093022208 then (spec_l14Draw.l1 k2 (wrap64 (x6_2 + 1)) s0_0 t344 t345 true x324001_1 (x324002_2 ++ [t343]) x324003_2) else (none)) = some (r1,r2,r3,r4,r5,r6):=H
         have A34:=aM_ A340
         clear A340
         by_cases c35 : x324002_2.length < 8796093022208
         ·rw [if_pos c35] at H
          have LMc35:=aM_ c35
          clear c35
          obtain ⟨y346,hy346⟩ : ∃ y_ : List ByteArray,y_ = (x324002_2 ++ [t343]):=⟨_,rfl⟩
          replace H : (spec_l14Draw.l1 k2 (wrap64 (x6_2 + 1)) s0_0 t344 t345 true x324001_1 y346 x324003_2) = some (r1,r2,r3,r4,r5,r6):=by first | (rw [hy346];with_reducible exact H) | (have H2_:=(Option.bind_some _ _).symm.trans H;rw [hy346];with_reducible exact H2_) | (have H2_:=(Option.bind_some _ _).symm.trans H;with_reducible exact H2_) | with_reducible exact H | (rw [hy346];exact H) | exact H
          have Ny346:=aM_ hy346
          clear hy346
          have H':=aM_ H
          clear H
          have hnb36:=NB323_319.out
          have hnc36:=NB319_323.out
          have hnb37:=NB323_0.out
          have hnc37:=NB0_323.out
          have hcz38_0 : wr.cell? ⟨gb323,0,none⟩ = some (.bool true):=(kC_ BK323.out 0).trans rfl
          have hcz38_1 : wr.cell? ⟨gb323,1,none⟩ = some (u324001):=(kC_ BK323.out 1).trans rfl
          have hcz38_2 : wr.cell? ⟨gb323,2,none⟩ = some (u324002):=(kC_ BK323.out 2).trans rfl
          have hcz38_3 : wr.cell? ⟨gb323,3,none⟩ = some (u324003):=(kC_ BK323.out 3).trans rfl
          have hfz38_0:=kF_ BK323.out 0
          have hfz38_1:=kF_ BK323.out 1
          have hfz38_2:=kF_ BK323.out 2
          have hfz38_3:=kF_ BK323.out 3
          obtain ⟨Ao39,co39,eo39⟩:=Kd.R_slice HO_324001.out
          subst eo39
          try go_wp2
          have n0_:=aM_ (rD_ HO_324001.out)
          have n1_:=aM_ (rD_ HO_324002.out)
          have n2_:=aM_ (rD_ HO_324003.out)
          have n3_:=aM_ (kD_ BK319.out)
          have n4_:=aM_ (kD_ BK323.out)
          have n5_:=aM_ (J155.drew HI0.out)
          have n6_:=aM_ (eD_ HK.out)
          have n7_:=aM_ (bD_ HB.out)
          clear HO_324001 HO_324002 HO_324003 BK319 BK323 HI0 HK HB
          have HO_324001:=n0_
          have HO_324002:=n1_
          have HO_324003:=n2_
          have BK319:=n3_
          have BK323:=n4_
          have HI0:=n5_
          have HK:=n6_
          have HB:=n7_
          clear n0_ n1_ n2_ n3_ n4_ n5_ n6_ n7_
          refine start_ (n:=9) (S:=fun w'=>w'.cell? ⟨gb323,0,none⟩ = some (.bool true) ∧ w'.cell? ⟨gb323,1,none⟩ = some (.slice Ao39 x324001_1.length co39) ∧ w'.cell? ⟨gb323,2,none⟩ = some (u324002) ∧ w'.cell? ⟨gb323,3,none⟩ = some (u324003)) (ds:=[8]) (tb_ 0 9) (by kernel_rfl) rfl rfl ⟨(kC_ BK323.out 0).trans rfl,(kC_ BK323.out 1).trans rfl,(kC_ BK323.out 2).trans rfl,(kC_ BK323.out 3).trans rfl⟩ (fun hHeld=>?_);refine with_tabW spec_l14Draw.tab14 spec_l14Draw.bits14 (fun HT_ HW_=>?_)
          generalize wr.drew = w40 at HO_324001 HO_324002 HO_324003 BK319 BK323 HI0 HK HB hHeld ⊢
          refine pure_ (i:=0) (N:=some 55) (v:=?_) (a':=?_) (tb_ 1 8) rfl rfl (any_of HT_.out (by kernel_rfl)) (fun _ _ _ h=>h) (Or.inl ⟨by rfl,?_⟩) ?_ ?_
          rotate_left
          ·intro w'
           go_simp
           with_reducible rfl
          rotate_left
          ·simp only [Act.put,sI_,sZ_,sS_,i64_w,i32_w]
           rfl
          refine pure_ (i:=2) (N:=some 57) (v:=?_) (a':=?_) #[true,false,true,false,false,false,false,false,false] rfl rfl (any_of HT_.out (by kernel_rfl)) (fun _ _ _ h=>h) (Or.inl ⟨by rfl,?_⟩) ?_ ?_
          rotate_left
          ·intro w'
           go_simp
           with_reducible rfl
          rotate_left
          ·simp only [Act.put,sI_,sZ_,sS_,i64_w,i32_w]
           rfl
          refine take_ (i:=1) (N:=some 56) (v:=?_) (a':=?_) (tb_ 3 6) rfl rfl (take_ofW HT_.out HW_.out (by kernel_rfl)) (fun _ _ _ h=>h) (Or.inl ⟨by rfl,?_⟩) hHeld ?_ ?_
          rotate_left
          ·rintro w' ⟨s0,s1,s2,s3⟩
           go_simp
           with_reducible rfl
          rotate_left
          ·simp only [Act.put,sI_,sZ_,sS_,i64_w,i32_w]
           rfl
          refine one_ (i:=3) (N:=some 58) (tb_ 4 5) rfl rfl (one_of HT_.out (by kernel_rfl)) (by decide) (fun K hK=>?_)
          refine Kd.R_lit_step Kd.string _ 9 ?hg (N:=58) ?hd (xs:=([(⟨#[]⟩ : ByteArray),(⟨#[118]⟩ : ByteArray),(⟨#[118,97,108,117,101]⟩ : ByteArray)] : List ByteArray)) (inner:=[.string (⟨#[]⟩ : ByteArray),.string (⟨#[118]⟩ : ByteArray),.string (⟨#[118,97,108,117,101]⟩ : ByteArray)]) (ok:=fun _=>True) (okp:=fun _=>True) ?hr ?hp (fun _ hk=>hk) trivial (Below.refl _ _) (Nat.le_refl _) (by simp) ?_;(case hd=>rfl);(case hg=>rfl);(case hr=>first | (go_simp;done) | (go_simp;rfl));(case hp=>exact (Reps.one (show Kd.M Kd.string _ _ _ (⟨#[]⟩ : ByteArray) [.string (⟨#[]⟩ : ByteArray)] from rfl) (Reps.one (show Kd.M Kd.string _ _ _ (⟨#[118]⟩ : ByteArray) [.string (⟨#[118]⟩ : ByteArray)] from rfl) (Reps.one (show Kd.M Kd.string _ _ _ (⟨#[118,97,108,117,101]⟩ : ByteArray) [.string (⟨#[118,97,108,117,101]⟩ : ByteArray)] from rfl) (Reps.none _ _)))))
          intro v341 w41 ho42 hb hg_ hnew_
          clear hg_ hnew_
          (first | rw [← Ny340.out] at ho42 | (simp only [Int.reduceToNat] at ho42;rw [← Ny340.out] at ho42))
          have n0_:=aM_ (Kd.R_elder' (by exact rZ_ HO_324001) (Kd.R_base ho42) hb)
          have n1_:=aM_ (Kd.R_elder' (by exact rZ_ HO_324002) (Kd.R_base ho42) hb)
          have n2_:=aM_ (Kd.R_below (by exact rZ_ HO_324003) hb)
          have n3_:=aM_ (Kd.R_lower (Kd.R_new' (Kd.R_new' ho42 (Kd.R_lt (by exact rZ_ HO_324001))) (Kd.R_lt (by exact rZ_ HO_324002))) (keep_size (w:=w) (g:=g) (row:=none) (by exact eZ_ HK)))
          have n4_:=aM_ (blk_below (g:=gb319) (o:=.cells #[.bool false,.slice none 0 0,.slice none 0 0,.slice none 0 0] 29 (0,0)) (by exact kZ_ BK319) hb)
          have n5_:=aM_ (blk_below (g:=gb323) (o:=.cells #[.bool true,.slice Ao39 x324001_1.length co39,u324002,u324003] 29 (0,0)) (by exact kZ_ BK323) hb)
          have n6_:=aM_ (J155.below (by repeat first | exact J155.z HI0 | apply J155.set_1 | apply J155.set_2 | refine J155.y ?_) hb)
          have n7_:=aM_ (KeepBut.trans (by exact eZ_ HK) (KeepBut.of_below hb g none) (.inl rfl))
          have n8_:=aM_ (bT_ (by have e0_:=aM_ (J155.ge HI0.out);exact bZ_ HB) hb)
          clear HO_324001 HO_324002 HO_324003 BK319 BK323 HI0 HK HB
          have HO_324001:=n0_
          have HO_324002:=n1_
          have HO_324003:=n2_
          have HO342:=n3_
          have BK319:=n4_
          have BK323:=n5_
          have HI0:=n6_
          have HK:=n7_
          have HB:=n8_
          clear n0_ n1_ n2_ n3_ n4_ n5_ n6_ n7_ n8_ hb ho42
          obtain ⟨Ao43,co43,eo43⟩:=Kd.R_slice HO342.out
          (first | subst eo43 | (injection eo43 with f1_ f2_ f3_;have f4_:=f1_.symm;have f5_:=f3_.symm;clear f1_ f2_ f3_;subst f4_;subst f5_))
          refine hK.out _ _ ⟨(kC_ BK323.out 0).trans rfl,(kC_ BK323.out 1).trans rfl,(kC_ BK323.out 2).trans rfl,(kC_ BK323.out 3).trans rfl⟩ (fun hHeld=>?_)
          clear hK K
          refine norm_ (a':=?_) ?_ ?_
          rotate_left
          ·show Act.put _ (some 58) _ = _
           simp only [Act.put,sI_,sZ_,sS_,i64_w,i32_w]
           rfl
          refine one_ (i:=4) (N:=some 59) (tb_ 5 4) rfl rfl (one_of HT_.out (by kernel_rfl)) (by decide) (fun K hK=>?_)
          refine goes_ Try.func124 (by kernel_rfl) rfl #[.pointer (some ⟨g,0,none⟩),.slice Ao43 y340.length co43] (by rfl) rfl rfl (by (try simp only [mA_,mC_,mN_]);first | done | rfl | (simp only [lD_,lT_];rfl)) ?_
          with_reducible refine (spec_l1Str.calls g s0_0 x1001_2 x1002_2 _ _ y340 t343 t344 t345 w0 _ ?side1 ?side2 ?side3 ?side4 ?side5 A34.out).mono ?_
          (case side1=>repeat first | exact J155.z HI0 | apply J155.set_1 | apply J155.set_2 | refine J155.y ?_)
          (case side2=>have e0_:=aM_ (J155.ge HI0.out);exact bZ_ HB)
          (case side3=>repeat (first | exact (Kd.R_reads' HO342.out).2.2 | (with_reducible refine cA_ ?_ _) | (with_reducible refine cN_ ?_ _) | (with_reducible refine cD_ ?_)))
          (case side4=>exact (Kd.R_reads' HO342.out).2.1)
          (case side5=>exact far_slice (J155.own_ne HI0.out HO342.out (by decide)))
          rintro e w44 ⟨rfl,hi,hb,hk⟩
          refine ⟨_,rfl,?_⟩
          have n0_:=aM_ (Kd.R_mono (Kd.R_keep (J155.apart (show J155 w0 _ g s0_0 x1001_2 x1002_2 from by repeat first | exact J155.z HI0 | apply J155.set_1 | apply J155.set_2 | refine J155.y ?_) (by exact rZ_ HO_324001) (by decide)) hk (fun _ h=>h.2)) (fun _ h=>h.1))
          have n1_:=aM_ (Kd.R_mono (Kd.R_keep (J155.apart (show J155 w0 _ g s0_0 x1001_2 x1002_2 from by repeat first | exact J155.z HI0 | apply J155.set_1 | apply J155.set_2 | refine J155.y ?_) (by exact rZ_ HO_324002) (by decide)) hk (fun _ h=>h.2)) (fun _ h=>h.1))
          have n2_:=aM_ (Kd.R_mono (Kd.R_keep (J155.apart (show J155 w0 _ g s0_0 x1001_2 x1002_2 from by repeat first | exact J155.z HI0 | apply J155.set_1 | apply J155.set_2 | refine J155.y ?_) (by exact rZ_ HO_324003) (by decide)) hk (fun _ h=>h.2)) (fun _ h=>h.1))
          have n3_:=aM_ (KeepBut.blk hk (g':=gb319) (o:=.cells #[.bool false,.slice none 0 0,.slice none 0 0,.slice none 0 0] 29 (0,0)) (by exact kZ_ BK319) NB319_0.out (by simp))
          have n4_:=aM_ (KeepBut.blk hk (g':=gb323) (o:=.cells #[.bool true,.slice Ao39 x324001_1.length co39,u324002,u324003] 29 (0,0)) (by exact kZ_ BK323) NB323_0.out (by simp))
          have n5_:=aM_ (Kd.R_mono (Kd.R_keep (J155.apart (show J155 w0 _ g s0_0 x1001_2 x1002_2 from by repeat first | exact J155.z HI0 | apply J155.set_1 | apply J155.set_2 | refine J155.y ?_) (by exact rZ_ HO342) (by decide)) hk (fun _ h=>h.2)) (fun _ h=>h.1))
          have n6_:=aM_ (KeepBut.trans (by exact eZ_ HK) hk (.inl rfl))
          have n7_:=aM_ (hb)
          have n8_:=aM_ (hi)
          clear HO_324001 HO_324002 HO_324003 BK319 BK323 HO342 HK HB HI0
          have HO_324001:=n0_
          have HO_324002:=n1_
          have HO_324003:=n2_
          have BK319:=n3_
          have BK323:=n4_
          have HO342:=n5_
          have HK:=n6_
          have HB:=n7_
          have HI0:=n8_
          clear n0_ n1_ n2_ n3_ n4_ n5_ n6_ n7_ n8_ hb
          skip
          clear hk hi
          refine hK.out _ _ ⟨(kC_ BK323.out 0).trans rfl,(kC_ BK323.out 1).trans rfl,(kC_ BK323.out 2).trans rfl,(kC_ BK323.out 3).trans rfl⟩ (fun hHeld=>?_)
          clear hK K
          refine norm_ (a':=?_) ?_ ?_
          rotate_left
          ·show Act.put _ (some 59) _ = _
           simp only [Act.put,sI_,sZ_,sS_,i64_w,i32_w]
           rfl
          refine one_ (i:=5) (N:=some 60) (tb_ 6 3) rfl rfl (one_of HT_.out (by kernel_rfl)) (by decide) (fun K hK=>?_)
          refine value_ (w1:=?_) (v:=?_) (by rfl) rfl ?_ ?_
          rotate_left 2
          ·go_simp
           constructor
           ·rfl
           ·rfl
          refine hK.out _ _ ⟨(kC_ (kA_ BK323.out _) 0).trans rfl,(kC_ (kA_ BK323.out _) 1).trans rfl,(kC_ (kA_ BK323.out _) 2).trans rfl,(kC_ (kA_ BK323.out _) 3).trans rfl⟩ (fun hHeld=>?_)
          clear hK K
          refine norm_ (a':=?_) ?_ ?_
          rotate_left
          ·show Act.put _ (some 60) _ = _
           simp only [Act.put,sI_,sZ_,sS_,i64_w,i32_w]
           rfl
          refine one_ (i:=6) (N:=some 61) (tb_ 7 2) rfl rfl (one_of HT_.out (by kernel_rfl)) (by decide) (fun K hK=>?_)
          refine Kd.R_append_step Kd.string w.heap.size (by rfl) (.tmp 56) (.tmp 60) 22 9 (.string ⟨#[]⟩) 16 rfl Try.underlying22 info9 rfl (by decide) (by omega) u324002 x324002_2 t343 [.string t343] (fun k_=>some k_ ≠ (.slice Ao39 x324001_1.length co39 : Value).ownBlock ∧ some k_ ≠ (.slice Ao43 y340.length co43 : Value).ownBlock) (fun _=>False) rfl rfl ?aP (fun _ hk=>hk.elim) ?aF ?aO (Below.refl _ _) ?aS ?aL ?_
          (case aP=>exact rfl)
          (case aF=>exact (fun k_ hk=>⟨Kd.fresh' (Kd.R_lt (by exact rZ_ HO_324001)) k_ hk,Kd.fresh' (Kd.R_lt (by exact rZ_ HO342)) k_ hk⟩))
          (case aO=>exact (by exact rZ_ HO_324002))
          (case aS=>exact (keep_size (w:=w) (g:=g) (row:=none) (by exact eZ_ HK)))
          (case aL=>have:=LMc35.out;omega)
          intro v347 w45 ho hb hg hat
          rw [← Ny346.out] at ho
          have n0_:=aM_ (Kd.R_after (ok:=(fun k_=>some k_ ≠ (.slice Ao43 y340.length co43 : Value).ownBlock)) (by (with_reducible repeat (first | apply rA_ | apply rN_ | apply rD_));exact Kd.R_mono HO_324001.out (fun _ hk=>⟨hk.2,hk.1⟩)) hg hat)
          have n1_:=aM_ (Kd.R_over' (by exact rZ_ HO_324003) (Kd.R_typed (by exact rZ_ HO_324002)) (by decide) hg)
          have n2_:=aM_ (blk_grown (g:=gb319) (o:=.cells #[.bool false,.slice none 0 0,.slice none 0 0,.slice none 0 0] 29 (0,0)) (by exact kZ_ BK319) hg (Kd.R_ne HO_324002.out BK319.out (by decide)))
          have n3_:=aM_ (blk_grown (g:=gb323) (o:=.cells #[.bool true,.slice Ao39 x324001_1.length co39,u324002,u324003] 29 (0,0)) (by exact kZ_ BK323) hg (Kd.R_ne HO_324002.out BK323.out (by decide)))
          have n4_:=aM_ (J155.grown (by repeat first | exact J155.z HI0 | apply J155.set_1 | apply J155.set_2 | refine J155.y ?_) hg (J155.own_ne HI0.out HO_324002.out (by decide)))
          have n5_:=aM_ (Kd.R_after (ok:=(fun k_=>some k_ ≠ (.slice Ao39 x324001_1.length co39 : Value).ownBlock)) (by (with_reducible repeat (first | apply rA_ | apply rN_ | apply rD_));exact Kd.R_mono HO342.out (fun _ hk=>⟨hk.1.2,hk.2⟩)) hg hat)
          have n6_:=aM_ (below_weaken (by have e0_:=aM_ (J155.ge HI0.out);exact bZ_ HB) HL.out hb)
          have n7_:=aM_ (KeepBut.trans (by exact eZ_ HK) (KeepBut.of_grown hg g) (Kd.R_base2 HO_324002.out))
          have n8_:=aM_ (ho)
          clear HO_324001 HO_324003 BK319 BK323 HI0 HO342 HB HK HO_324002
          have HO_324001:=n0_
          have HO_324003:=n1_
          have BK319:=n2_
          have BK323:=n3_
          have HI0:=n4_
          have HO342:=n5_
          have HB:=n6_
          have HK:=n7_
          have HO348:=n8_
          clear n0_ n1_ n2_ n3_ n4_ n5_ n6_ n7_ n8_ ho hb hg hat
          obtain ⟨Ao46,co46,eo46⟩:=Kd.R_slice HO348.out
          (first | subst eo46 | (injection eo46 with f1_ f2_ f3_;have f4_:=f1_.symm;have f5_:=f3_.symm;clear f1_ f2_ f3_;subst f4_;subst f5_))
          refine hK.out _ _ ⟨(kC_ BK323.out 0).trans rfl,(kC_ BK323.out 1).trans rfl,(kC_ BK323.out 2).trans rfl,(kC_ BK323.out 3).trans rfl⟩ (fun hHeld=>?_)
          clear hK K
          refine norm_ (a':=?_) ?_ ?_
          rotate_left
          ·show Act.put _ (some 61) _ = _
           simp only [Act.put,sI_,sZ_,sS_,i64_w,i32_w]
           rfl
          refine pure_ (i:=7) (N:=some 62) (v:=?_) (a':=?_) (tb_ 8 1) rfl rfl (any_of HT_.out (by kernel_rfl)) (fun _ _ _ h=>h) (Or.inl ⟨by rfl,?_⟩) ?_ ?_
          rotate_left
          ·intro w'
           go_simp
           with_reducible rfl
          rotate_left
          ·simp only [Act.put,sI_,sZ_,sS_,i64_w,i32_w]
           rfl
          refine last_ (i:=8) (N:=none) (tb_ 9 0) rfl rfl (one_of HT_.out (by kernel_rfl)) (by decide) (fun K hK=>?_)
          have hs47 : w45.cell? ⟨gb323,2,none⟩ = some (u324002):=(kC_ BK323.out 2).trans rfl
          have hfs47:=kF_ BK323.out 2
          have hns47_0:=NB319_323.out
          have hms47_0:=NB323_319.out
          refine skip_ (w1:=?_) (by rfl) rfl ?_ ?_
          rotate_left
          ·go_simp
           rfl
          refine hK.out _ _ ?_
          clear hK K
          refine done_ (done_of HT_.out (by kernel_rfl)) ?_
          try go_wp2
          go_roundg k2
          case measure=>have:=HK1.out;have:=HK2.out;omega
          case rel=>exact ⟨(wrap64 (x6_2 + 1)),(t344),(t345),(y346),(x324003_2),(.slice Ao46 y346.length co46),(u324003),(by first | rfl | (simp;done) | (simp [*];done)),H', ⟨by have:=HK1.out;have:=HK2.out;omega⟩,⟨by (with_reducible repeat (first | apply rA_ | apply rN_ | apply rD_));exact Kd.R_mono (Kd.R_far (p:=⟨gb323,2,none⟩) (Kd.R_types HO_324001.out BK323.out (by decide)) (fun _ hk=>hk.2) (.slice Ao46 y346.length co46)) (fun _ hk=>hk.1.2)⟩,⟨by (with_reducible repeat (first | apply rA_ | apply rN_ | apply rD_));exact Kd.R_mono (Kd.R_far (p:=⟨gb323,2,none⟩) (Kd.R_types HO348.out BK323.out (by decide)) (fun _ hk=>hk.2) (.slice Ao46 y346.length co46)) (fun _ hk=>hk.1.1)⟩,⟨by (with_reducible repeat (first | apply rA_ | apply rN_ | apply rD_));exact Kd.R_mono (Kd.R_far (p:=⟨gb323,2,none⟩) (Kd.R_types HO_324003.out BK323.out (by decide)) (fun _ hk=>hk.2) (.slice Ao46 y346.length co46)) (fun _ hk=>trivial)⟩,⟨by exact kW_ BK319⟩,⟨by (with_reducible repeat (first | refine kN_ ?_ _ | refine kD_ ?_ | refine kA_ ?_ _));refine kP_ (cs:=#[.bool true,.slice Ao39 x324001_1.length co39,u324002,u324003]) ?_ 2 _ rfl;exact kZ_ BK323⟩,⟨by repeat first | exact J155.z HI0 | apply J155.set_1 | apply J155.set_2 | refine J155.y ?_⟩,⟨by exact eZ_ HK⟩,⟨by have e0_:=aM_ (J155.ge HI0.out);exact bZ_ HB⟩⟩
         ·rw [if_neg c35] at H
          exact absurd H (by simp)
        ·rw [if_neg c33] at H
         have c33b0 : decide (x6_2 < (x324001_1.length : Int)) = false:=decide_eq_false c33
         clear c33
         have H':=aM_ H
         clear H
         have hnb48:=NB323_319.out
         have hnc48:=NB319_323.out
         have hnb49:=NB323_0.out
         have hnc49:=NB0_323.out
         have hcz50_0 : wr.cell? ⟨gb323,0,none⟩ = some (.bool true):=(kC_ BK323.out 0).trans rfl
         have hcz50_1 : wr.cell? ⟨gb323,1,none⟩ = some (u324001):=(kC_ BK323.out 1).trans rfl
         have hcz50_2 : wr.cell? ⟨gb323,2,none⟩ = some (u324002):=(kC_ BK323.out 2).trans rfl
         have hcz50_3 : wr.cell? ⟨gb323,3,none⟩ = some (u324003):=(kC_ BK323.out 3).trans rfl
         have hfz50_0:=kF_ BK323.out 0
         have hfz50_1:=kF_ BK323.out 1
         have hfz50_2:=kF_ BK323.out 2
         have hfz50_3:=kF_ BK323.out 3
         obtain ⟨Ao51,co51,eo51⟩:=Kd.R_slice HO_324001.out
         subst eo51
         go_wp2
         go_roundg k2
         case measure=>have:=HK1.out;have:=HK2.out;omega
         case rel=>exact ⟨(wrap64 (x6_2 + 1)),(x1001_2),(x1002_2),(x324002_2),(x324003_2),(u324002),(u324003),(by first | rfl | (simp;done) | (simp [*];done)),H', ⟨by have:=HK1.out;have:=HK2.out;omega⟩,⟨by exact rZ_ HO_324001⟩,⟨by exact rZ_ HO_324002⟩,⟨by exact rZ_ HO_324003⟩,⟨by exact kZ_ BK319⟩,⟨by exact kZ_ BK323⟩,⟨by repeat first | exact J155.z HI0 | apply J155.set_1 | apply J155.set_2 | refine J155.y ?_⟩,⟨by exact eZ_ HK⟩,⟨by have e0_:=aM_ (J155.ge HI0.out);exact bZ_ HB⟩⟩
       ·replace c32:=Bool.eq_false_iff.mpr c32
        subst c32
        have H1 : ((spec_l1Below.f s0_0 x1001_2 x1002_2 40).bind fun bt349=>(if x324003_2.length < 17592186044416 then (spec_l14Draw.l1 k2 (wrap64 (x6_2 + 1)) s0_0 bt349.2.1 bt349.2.2 false x324001_1 x324002_2 (x324003_2 ++ [wrap64 (2 + bt349.1)])) else (none))) = some (r1,r2,r3,r4,r5,r6):=by rw [if_neg (show ¬ (false = true) by decide)] at H;exact H
        clear H
        have H:=H1
        clear H1
        replace H:=oB_ H
        obtain ⟨⟨t349,t350,t351⟩,A520,H⟩:=H
        replace H : (if x324003_2.length < 17592186044416 then (spec_l14Draw.l1 k2 (wrap64 (x6_2 + 1)) s0_0 t350 t351 false x324001_1 x324002_2 (x324003_2 ++ [wrap64 (2 + t349)])) else (none)) = some (r1,r2,r3,r4,r5,r6):=H
        have A52:=aM_ A520
        clear A520
        by_cases c53 : x324003_2.length < 17592186044416
        ·rw [if_pos c53] at H
         have LMc53:=aM_ c53
         clear c53
         obtain ⟨y352,hy352⟩ : ∃ y_ : List Int,y_ = (x324003_2 ++ [wrap64 (2 + t349)]):=⟨_,rfl⟩
         replace H : (spec_l14Draw.l1 k2 (wrap64 (x6_2 + 1)) s0_0 t350 t351 false x324001_1 x324002_2 y352) = some (r1,r2,r3,r4,r5,r6):=by first | (rw [hy352];with_reducible exact H) | (have H2_:=(Option.bind_some _ _).symm.trans H;rw [hy352];with_reducible exact H2_) | (have H2_:=(Option.bind_some _ _).symm.trans H;with_reducible exact H2_) | with_reducible exact H | (rw [hy352];exact H) | exact H
         have Ny352:=aM_ hy352
         clear hy352
         have H':=aM_ H
         clear H
         have hnb54:=NB323_319.out
         have hnc54:=NB319_323.out
         have hnb55:=NB323_0.out
         have hnc55:=NB0_323.out
         have hcz56_0 : wr.cell? ⟨gb323,0,none⟩ = some (.bool false):=(kC_ BK323.out 0).trans rfl
         have hcz56_1 : wr.cell? ⟨gb323,1,none⟩ = some (u324001):=(kC_ BK323.out 1).trans rfl
         have hcz56_2 : wr.cell? ⟨gb323,2,none⟩ = some (u324002):=(kC_ BK323.out 2).trans rfl
         have hcz56_3 : wr.cell? ⟨gb323,3,none⟩ = some (u324003):=(kC_ BK323.out 3).trans rfl
         have hfz56_0:=kF_ BK323.out 0
         have hfz56_1:=kF_ BK323.out 1
         have hfz56_2:=kF_ BK323.out 2
         have hfz56_3:=kF_ BK323.out 3
         obtain ⟨Ao57,co57,eo57⟩:=Kd.R_slice HO_324001.out
         subst eo57
         try go_wp2
         have n0_:=aM_ (rD_ HO_324001.out)
         have n1_:=aM_ (rD_ HO_324002.out)
         have n2_:=aM_ (rD_ HO_324003.out)
         have n3_:=aM_ (kD_ BK319.out)
         have n4_:=aM_ (kD_ BK323.out)
         have n5_:=aM_ (J155.drew HI0.out)
         have n6_:=aM_ (eD_ HK.out)
         have n7_:=aM_ (bD_ HB.out)
         clear HO_324001 HO_324002 HO_324003 BK319 BK323 HI0 HK HB
         have HO_324001:=n0_
         have HO_324002:=n1_
         have HO_324003:=n2_
         have BK319:=n3_
         have BK323:=n4_
         have HI0:=n5_
         have HK:=n6_
         have HB:=n7_
         clear n0_ n1_ n2_ n3_ n4_ n5_ n6_ n7_
         refine start_ (n:=9) (S:=fun w'=>w'.cell? ⟨gb323,0,none⟩ = some (.bool false) ∧ w'.cell? ⟨gb323,1,none⟩ = some (.slice Ao57 x324001_1.length co57) ∧ w'.cell? ⟨gb323,2,none⟩ = some (u324002) ∧ w'.cell? ⟨gb323,3,none⟩ = some (u324003)) (ds:=[8]) (tb_ 0 9) (by kernel_rfl) rfl rfl ⟨(kC_ BK323.out 0).trans rfl,(kC_ BK323.out 1).trans rfl,(kC_ BK323.out 2).trans rfl,(kC_ BK323.out 3).trans rfl⟩ (fun hHeld=>?_);refine with_tabW spec_l14Draw.tab12 spec_l14Draw.bits12 (fun HT_ HW_=>?_)
         generalize wr.drew = w58 at HO_324001 HO_324002 HO_324003 BK319 BK323 HI0 HK HB hHeld ⊢
         refine pure_ (i:=0) (N:=some 42) (v:=?_) (a':=?_) (tb_ 1 8) rfl rfl (any_of HT_.out (by kernel_rfl)) (fun _ _ _ h=>h) (Or.inl ⟨by rfl,?_⟩) ?_ ?_
         rotate_left
         ·intro w'
          go_simp
          with_reducible rfl
         rotate_left
         ·simp only [Act.put,sI_,sZ_,sS_,i64_w,i32_w]
          rfl
         refine pure_ (i:=2) (N:=some 44) (v:=?_) (a':=?_) #[true,false,true,false,false,false,false,false,false] rfl rfl (any_of HT_.out (by kernel_rfl)) (fun _ _ _ h=>h) (Or.inl ⟨by rfl,?_⟩) ?_ ?_
         rotate_left
         ·intro w'
          go_simp
          with_reducible rfl
         rotate_left
         ·simp only [Act.put,sI_,sZ_,sS_,i64_w,i32_w]
          rfl
         refine take_ (i:=1) (N:=some 43) (v:=?_) (a':=?_) (tb_ 3 6) rfl rfl (take_ofW HT_.out HW_.out (by kernel_rfl)) (fun _ _ _ h=>h) (Or.inl ⟨by rfl,?_⟩) hHeld ?_ ?_
         rotate_left
         ·rintro w' ⟨s0,s1,s2,s3⟩
          go_simp
          with_reducible rfl
         rotate_left
         ·simp only [Act.put,sI_,sZ_,sS_,i64_w,i32_w]
          rfl
         refine one_ (i:=3) (N:=some 45) (tb_ 4 5) rfl rfl (one_of HT_.out (by kernel_rfl)) (by decide) (fun K hK=>?_)
         refine goes_ Try.func125 (by kernel_rfl) rfl #[.pointer (some ⟨g,0,none⟩),.int .i64 40] (by rfl) rfl rfl (by (try simp only [mA_,mC_,mN_]);first | done | rfl | (simp only [lD_,lT_];rfl)) ?_
         with_reducible refine (spec_l1Below.calls g s0_0 x1001_2 x1002_2 40 t349 t350 t351 w0 _ ?side1 ?side2 A52.out).mono ?_
         (case side1=>repeat first | exact J155.z HI0 | apply J155.set_1 | apply J155.set_2 | refine J155.y ?_)
         (case side2=>have e0_:=aM_ (J155.ge HI0.out);exact bZ_ HB)
         rintro e w59 ⟨rfl,hi,hb,hk⟩
         refine ⟨_,rfl,?_⟩
         have n0_:=aM_ (Kd.R_mono (Kd.R_keep (J155.apart (show J155 w0 _ g s0_0 x1001_2 x1002_2 from by repeat first | exact J155.z HI0 | apply J155.set_1 | apply J155.set_2 | refine J155.y ?_) (by exact rZ_ HO_324001) (by decide)) hk (fun _ h=>h.2)) (fun _ h=>h.1))
         have n1_:=aM_ (Kd.R_mono (Kd.R_keep (J155.apart (show J155 w0 _ g s0_0 x1001_2 x1002_2 from by repeat first | exact J155.z HI0 | apply J155.set_1 | apply J155.set_2 | refine J155.y ?_) (by exact rZ_ HO_324002) (by decide)) hk (fun _ h=>h.2)) (fun _ h=>h.1))
         have n2_:=aM_ (Kd.R_mono (Kd.R_keep (J155.apart (show J155 w0 _ g s0_0 x1001_2 x1002_2 from by repeat first | exact J155.z HI0 | apply J155.set_1 | apply J155.set_2 | refine J155.y ?_) (by exact rZ_ HO_324003) (by decide)) hk (fun _ h=>h.2)) (fun _ h=>h.1))
         have n3_:=aM_ (KeepBut.blk hk (g':=gb319) (o:=.cells #[.bool false,.slice none 0 0,.slice none 0 0,.slice none 0 0] 29 (0,0)) (by exact kZ_ BK319) NB319_0.out (by simp))
         have n4_:=aM_ (KeepBut.blk hk (g':=gb323) (o:=.cells #[.bool false,.slice Ao57 x324001_1.length co57,u324002,u324003] 29 (0,0)) (by exact kZ_ BK323) NB323_0.out (by simp))
         have n5_:=aM_ (KeepBut.trans (by exact eZ_ HK) hk (.inl rfl))
         have n6_:=aM_ (hb)
         have n7_:=aM_ (hi)
         clear HO_324001 HO_324002 HO_324003 BK319 BK323 HK HB HI0
         have HO_324001:=n0_
         have HO_324002:=n1_
         have HO_324003:=n2_
         have BK319:=n3_
         have BK323:=n4_
         have HK:=n5_
         have HB:=n6_
         have HI0:=n7_
         clear n0_ n1_ n2_ n3_ n4_ n5_ n6_ n7_ hb
         skip
         clear hk hi
         refine hK.out _ _ ⟨(kC_ BK323.out 0).trans rfl,(kC_ BK323.out 1).trans rfl,(kC_ BK323.out 2).trans rfl,(kC_ BK323.out 3).trans rfl⟩ (fun hHeld=>?_)
         clear hK K
         refine norm_ (a':=?_) ?_ ?_
         rotate_left
         ·show Act.put _ (some 45) _ = _
          simp only [Act.put,sI_,sZ_,sS_,i64_w,i32_w]
          rfl
         refine pure_ (i:=4) (N:=some 46) (v:=?_) (a':=?_) (tb_ 5 4) rfl rfl (any_of HT_.out (by kernel_rfl)) (fun _ _ _ h=>h) (Or.inl ⟨by rfl,?_⟩) ?_ ?_
         rotate_left
         ·intro w'
          go_simp
          with_reducible rfl
         rotate_left
         ·simp only [Act.put,sI_,sZ_,sS_,i64_w,i32_w]
          rfl
         refine one_ (i:=5) (N:=some 47) (tb_ 6 3) rfl rfl (one_of HT_.out (by kernel_rfl)) (by decide) (fun K hK=>?_)
         refine value_ (w1:=?_) (v:=?_) (by rfl) rfl ?_ ?_
         rotate_left 2
         ·go_simp
          constructor
          ·rfl
          ·rfl
         refine hK.out _ _ ⟨(kC_ (kA_ BK323.out _) 0).trans rfl,(kC_ (kA_ BK323.out _) 1).trans rfl,(kC_ (kA_ BK323.out _) 2).trans rfl,(kC_ (kA_ BK323.out _) 3).trans rfl⟩ (fun hHeld=>?_)
         clear hK K
         refine norm_ (a':=?_) ?_ ?_
         rotate_left
         ·show Act.put _ (some 47) _ = _
          simp only [Act.put,sI_,sZ_,sS_,i64_w,i32_w]
          rfl
         refine one_ (i:=6) (N:=some 48) (tb_ 7 2) rfl rfl (one_of HT_.out (by kernel_rfl)) (by decide) (fun K hK=>?_)
         refine Kd.R_append_step (Kd.int .i64) w.heap.size (by rfl) (.tmp 43) (.tmp 47) 23 3 (.int .i64 0) 8 rfl Try.underlying23 info3 rfl (by decide) (by omega) u324003 x324003_2 (wrap64 (2 + t349)) [.int .i64 (wrap64 (2 + t349))] (fun _=>True) (fun _=>False) rfl rfl ?aP (fun _ hk=>hk.elim) ?aF ?aO (Below.refl _ _) ?aS ?aL ?_
         (case aP=>exact rfl)
         (case aF=>exact (fun _ _=>trivial))
         (case aO=>exact (by exact rZ_ HO_324003))
         (case aS=>exact (keep_size (w:=w) (g:=g) (row:=none) (by exact eZ_ HK)))
         (case aL=>have:=LMc53.out;omega)
         intro v353 w60 ho hb hg hat
         rw [← Ny352.out] at ho
         have n0_:=aM_ (Kd.R_over' (by exact rZ_ HO_324001) (Kd.R_typed (by exact rZ_ HO_324003)) (by decide) hg)
         have n1_:=aM_ (Kd.R_over' (by exact rZ_ HO_324002) (Kd.R_typed (by exact rZ_ HO_324003)) (by decide) hg)
         have n2_:=aM_ (blk_grown (g:=gb319) (o:=.cells #[.bool false,.slice none 0 0,.slice none 0 0,.slice none 0 0] 29 (0,0)) (by exact kZ_ BK319) hg (Kd.R_ne HO_324003.out BK319.out (by decide)))
         have n3_:=aM_ (blk_grown (g:=gb323) (o:=.cells #[.bool false,.slice Ao57 x324001_1.length co57,u324002,u324003] 29 (0,0)) (by exact kZ_ BK323) hg (Kd.R_ne HO_324003.out BK323.out (by decide)))
         have n4_:=aM_ (J155.grown (by repeat first | exact J155.z HI0 | apply J155.set_1 | apply J155.set_2 | refine J155.y ?_) hg (J155.own_ne HI0.out HO_324003.out (by decide)))
         have n5_:=aM_ (below_weaken (by have e0_:=aM_ (J155.ge HI0.out);exact bZ_ HB) HL.out hb)
         have n6_:=aM_ (KeepBut.trans (by exact eZ_ HK) (KeepBut.of_grown hg g) (Kd.R_base2 HO_324003.out))
         have n7_:=aM_ (ho)
         clear HO_324001 HO_324002 BK319 BK323 HI0 HB HK HO_324003
         have HO_324001:=n0_
         have HO_324002:=n1_
         have BK319:=n2_
         have BK323:=n3_
         have HI0:=n4_
         have HB:=n5_
         have HK:=n6_
         have HO354:=n7_
         clear n0_ n1_ n2_ n3_ n4_ n5_ n6_ n7_ ho hb hg hat
         obtain ⟨Ao61,co61,eo61⟩:=Kd.R_slice HO354.out
         (first | subst eo61 | (injection eo61 with f1_ f2_ f3_;have f4_:=f1_.symm;have f5_:=f3_.symm;clear f1_ f2_ f3_;subst f4_;subst f5_))
         refine hK.out _ _ ⟨(kC_ BK323.out 0).trans rfl,(kC_ BK323.out 1).trans rfl,(kC_ BK323.out 2).trans rfl,(kC_ BK323.out 3).trans rfl⟩ (fun hHeld=>?_)
         clear hK K
         refine norm_ (a':=?_) ?_ ?_
         rotate_left
         ·show Act.put _ (some 48) _ = _
          simp only [Act.put,sI_,sZ_,sS_,i64_w,i32_w]
          rfl
         refine pure_ (i:=7) (N:=some 49) (v:=?_) (a':=?_) (tb_ 8 1) rfl rfl (any_of HT_.out (by kernel_rfl)) (fun _ _ _ h=>h) (Or.inl ⟨by rfl,?_⟩) ?_ ?_
         rotate_left
         ·intro w'
          go_simp
          with_reducible rfl
         rotate_left
         ·simp only [Act.put,sI_,sZ_,sS_,i64_w,i32_w]
          rfl
         refine last_ (i:=8) (N:=none) (tb_ 9 0) rfl rfl (one_of HT_.out (by kernel_rfl)) (by decide) (fun K hK=>?_)
         have hs62 : w60.cell? ⟨gb323,3,none⟩ = some (u324003):=(kC_ BK323.out 3).trans rfl
         have hfs62:=kF_ BK323.out 3
         have hns62_0:=NB319_323.out
         have hms62_0:=NB323_319.out
         refine skip_ (w1:=?_) (by rfl) rfl ?_ ?_
         rotate_left
         ·go_simp
          rfl
         refine hK.out _ _ ?_
         clear hK K
         refine done_ (done_of HT_.out (by kernel_rfl)) ?_
         try go_wp2
         go_roundg k2
         case measure=>have:=HK1.out;have:=HK2.out;omega
         case rel=>exact ⟨(wrap64 (x6_2 + 1)),(t350),(t351),(x324002_2),(y352),(u324002),(.slice Ao61 y352.length co61),(by first | rfl | (simp;done) | (simp [*];done)),H', ⟨by have:=HK1.out;have:=HK2.out;omega⟩,⟨by (with_reducible repeat (first | apply rA_ | apply rN_ | apply rD_));exact Kd.R_mono (Kd.R_far (p:=⟨gb323,3,none⟩) (Kd.R_types HO_324001.out BK323.out (by decide)) (fun _ hk=>hk.2) (.slice Ao61 y352.length co61)) (fun _ hk=>hk.1)⟩,⟨by (with_reducible repeat (first | apply rA_ | apply rN_ | apply rD_));exact Kd.R_mono (Kd.R_far (p:=⟨gb323,3,none⟩) (Kd.R_types HO_324002.out BK323.out (by decide)) (fun _ hk=>hk.2) (.slice Ao61 y352.length co61)) (fun _ hk=>hk.1)⟩,⟨by (with_reducible repeat (first | apply rA_ | apply rN_ | apply rD_));exact Kd.R_mono (Kd.R_far (p:=⟨gb323,3,none⟩) (Kd.R_types HO354.out BK323.out (by decide)) (fun _ hk=>hk.2) (.slice Ao61 y352.length co61)) (fun _ hk=>trivial)⟩,⟨by exact kW_ BK319⟩,⟨by (with_reducible repeat (first | refine kN_ ?_ _ | refine kD_ ?_ | refine kA_ ?_ _));refine kP_ (cs:=#[.bool false,.slice Ao57 x324001_1.length co57,u324002,u324003]) ?_ 3 _ rfl;exact kZ_ BK323⟩,⟨by repeat first | exact J155.z HI0 | apply J155.set_1 | apply J155.set_2 | refine J155.y ?_⟩,⟨by exact eZ_ HK⟩,⟨by have e0_:=aM_ (J155.ge HI0.out);exact bZ_ HB⟩⟩
        ·rw [if_neg c53] at H
         exact absurd H (by simp)
      ·rw [if_neg c31] at H
       have c31b0 : decide (x6_2 ≤ (x324001_1.length : Int)) = false:=decide_eq_false c31
       clear c31
       simp only [Option.some.injEq,Prod.mk.injEq] at H
       obtain ⟨rfl,rfl,rfl,rfl,rfl,rfl⟩:=H
       have hnb63:=NB323_319.out
       have hnc63:=NB319_323.out
       have hnb64:=NB323_0.out
       have hnc64:=NB0_323.out
       have hcz65_0 : wr.cell? ⟨gb323,0,none⟩ = some (.bool t320):=(kC_ BK323.out 0).trans rfl
       have hcz65_1 : wr.cell? ⟨gb323,1,none⟩ = some (u324001):=(kC_ BK323.out 1).trans rfl
       have hcz65_2 : wr.cell? ⟨gb323,2,none⟩ = some (u324002):=(kC_ BK323.out 2).trans rfl
       have hcz65_3 : wr.cell? ⟨gb323,3,none⟩ = some (u324003):=(kC_ BK323.out 3).trans rfl
       have hfz65_0:=kF_ BK323.out 0
       have hfz65_1:=kF_ BK323.out 1
       have hfz65_2:=kF_ BK323.out 2
       have hfz65_3:=kF_ BK323.out 3
       obtain ⟨Ao66,co66,eo66⟩:=Kd.R_slice HO_324001.out
       subst eo66
       have hnb67:=NB319_0.out
       have hnc67:=NB0_319.out
       have hcz68_0 : wr.cell? ⟨gb319,0,none⟩ = some (.bool false):=(kC_ BK319.out 0).trans rfl
       have hcz68_1 : wr.cell? ⟨gb319,1,none⟩ = some (.slice none 0 0):=(kC_ BK319.out 1).trans rfl
       have hcz68_2 : wr.cell? ⟨gb319,2,none⟩ = some (.slice none 0 0):=(kC_ BK319.out 2).trans rfl
       have hcz68_3 : wr.cell? ⟨gb319,3,none⟩ = some (.slice none 0 0):=(kC_ BK319.out 3).trans rfl
       have hfz68_0:=kF_ BK319.out 0
       have hfz68_1:=kF_ BK319.out 1
       have hfz68_2:=kF_ BK319.out 2
       have hfz68_3:=kF_ BK319.out 3
       obtain ⟨Ao69,co69,eo69⟩:=Kd.R_slice HO_324002.out
       subst eo69
       obtain ⟨Ao70,co70,eo70⟩:=Kd.R_slice HO_324003.out
       subst eo70
       go_wp2
       refine bodyPost_ret (results_cell_row rfl _ _ gb319 29 #[.bool t320,.slice Ao66 x324001_1.length co66,.slice Ao69 x324002_2.length co69,.slice Ao70 x324003_2.length co70] (0,0) _ rfl (by (with_reducible repeat (first | refine kN_ ?_ _ | refine kD_ ?_ | refine kA_ ?_ _));refine kP_ (cs:=#[.bool t320,.slice Ao66 x324001_1.length co66,.slice Ao69 x324002_2.length co69,.slice none 0 0]) ?_ 3 _ rfl;(with_reducible repeat (first | refine kN_ ?_ _ | refine kD_ ?_ | refine kA_ ?_ _));refine kP_ (cs:=#[.bool t320,.slice Ao66 x324001_1.length co66,.slice none 0 0,.slice none 0 0]) ?_ 2 _ rfl;(with_reducible repeat (first | refine kN_ ?_ _ | refine kD_ ?_ | refine kA_ ?_ _));refine kP_ (cs:=#[.bool t320,.slice none 0 0,.slice none 0 0,.slice none 0 0]) ?_ 1 _ rfl;(with_reducible repeat (first | refine kN_ ?_ _ | refine kD_ ?_ | refine kA_ ?_ _));refine kP_ (cs:=#[.bool false,.slice none 0 0,.slice none 0 0,.slice none 0 0]) ?_ 0 _ rfl;exact kZ_ BK319) Try.underlying29 rfl (by kernel_rfl)) rfl ?_
       exact ⟨_,_,_,by first | rfl | (simp [errW_none,errW_some] <;> rfl) | (simp [*, errW_none,errW_some] <;> rfl),by (with_reducible repeat (first | apply rA_ | apply rN_ | apply rD_));exact Kd.R_mono (Kd.R_far (p:=⟨gb319,3,none⟩) (Kd.R_far (p:=⟨gb319,2,none⟩) (Kd.R_far (p:=⟨gb319,1,none⟩) (Kd.R_far (p:=⟨gb319,0,none⟩) (Kd.R_types HO_324001.out BK319.out (by decide)) (fun _ hk=>hk.2) (.bool t320)) (fun _ hk=>hk.2) (.slice Ao66 x324001_1.length co66)) (fun _ hk=>hk.2) (.slice Ao69 x324002_2.length co69)) (fun _ hk=>hk.2) (.slice Ao70 x324003_2.length co70)) (fun _ hk=>hk.1),by (with_reducible repeat (first | apply rA_ | apply rN_ | apply rD_));exact Kd.R_mono (Kd.R_far (p:=⟨gb319,3,none⟩) (Kd.R_far (p:=⟨gb319,2,none⟩) (Kd.R_far (p:=⟨gb319,1,none⟩) (Kd.R_far (p:=⟨gb319,0,none⟩) (Kd.R_types HO_324002.out BK319.out (by decide)) (fun _ hk=>hk.2) (.bool t320)) (fun _ hk=>hk.2) (.slice Ao66 x324001_1.length co66)) (fun _ hk=>hk.2) (.slice Ao69 x324002_2.length co69)) (fun _ hk=>hk.2) (.slice Ao70 x324003_2.length co70)) (fun _ hk=>hk.1),by (with_reducible repeat (first | apply rA_ | apply rN_ | apply rD_));exact Kd.R_mono (Kd.R_far (p:=⟨gb319,3,none⟩) (Kd.R_far (p:=⟨gb319,2,none⟩) (Kd.R_far (p:=⟨gb319,1,none⟩) (Kd.R_far (p:=⟨gb319,0,none⟩) (Kd.R_types HO_324003.out BK319.out (by decide)) (fun _ hk=>hk.2) (.bool t320)) (fun _ hk=>hk.2) (.slice Ao66 x324001_1.length co66)) (fun _ hk=>hk.2) (.slice Ao69 x324002_2.length co69)) (fun _ hk=>hk.2) (.slice Ao70 x324003_2.length co70)) (fun _ hk=>trivial),by repeat first | exact J155.z HI0 | apply J155.set_1 | apply J155.set_2 | refine J155.y ?_,by have e0_:=aM_ (J155.ge HI0.out);exact bZ_ HB,by exact eZ_ HK⟩
end Go.Proofs.Ytllgmgpfdnofmaa.PFnNodes
