import Derived.Test.YtllgmgpfdnofmaaZRRPFnRowsReadx0
import Derived.Test.YtllgmgpfdnofmaaZRRPFnRowsReadx6
import Derived.Test.YtllgmgpfdnofmaaZRRPFnRowsReadx11
import Derived.Test.YtllgmgpfdnofmaaZRRPFnRowsReadx12
namespace Go.Proofs.Ytllgmgpfdnofmaa.PFnRowsRead
open Go.RowKit Go.Proofs.YtllgmgpfdnofmaaW.PrintWords Go.Proofs.YtllgmgpfdnofmaaW.PrintLast Go.Proofs.YtllgmgpfdnofmaaW.PrintMore Go.Proofs.Ytllgmgpfdnofmaa.Xtra
attribute [local go_sem] max2_int min2_int max_two min_two max_three min_three max_four min_four str_leq str_gtr str_geq setCell_drewN cell_set2 cell_set3   -- for this text's walks alone
set_option linter.unusedVariables false
set_option linter.unusedSimpArgs false
def spec_l2Of.j0 : Nat → Int → Bool → List Int → Int → Int → Option (Int × Int × ByteArray × Int × Int)
 | 0,_,_,_,_,_=>none
 | k + 1,x1,x12,x1000,x1001,x1002=>if x12 = true then (some (0,0,(⟨#[]⟩ : ByteArray),x1001,x1002)) else (if x1 = 1 then ((spec_l1Int.f x1000 x1001 x1002 (([0,1,2,3,(-1),255,256,2147483647,(-2147483648)] : List Int))).bind fun bt610=>(some (x1,bt610.1,(⟨#[]⟩ : ByteArray),bt610.2.1,bt610.2.2))) else (if x1 = 2 then ((spec_l1Below.f x1000 x1001 x1002 100000).bind fun bt613=>((spec_l1Int.f x1000 bt613.2.1 bt613.2.2 (([0,1,(-1),255,256,(-256),(-257),65535,1000000000000000,(-1000000000000000),wrap64 (-bt613.1)] : List Int))).bind fun bt619=>(some (x1,bt619.1,(⟨#[]⟩ : ByteArray),bt619.2.1,bt619.2.2)))) else (if x1 = 3 then ((spec_l2Text.f x1000 x1001 x1002).bind fun bt622=>(some (x1,0,bt622.1,bt622.2.1,bt622.2.2))) else ((spec_l1Below.f x1000 x1001 x1002 2).bind fun bt625=>(some (x1,bt625.1,(⟨#[]⟩ : ByteArray),bt625.2.1,bt625.2.2))))))
def spec_l2Of.f (k : Nat) (s0_0 : List Int) (s0_1 : Int) (s0_2 : Int) (a1 : Int) (a2 : Bool) : Option (Int × Int × ByteArray × Int × Int):=if a2 = true then ((spec_l1Once.f s0_0 s0_1 s0_2 4).bind fun bt603=>(spec_l2Of.j0 k a1 bt603.1 s0_0 bt603.2.1 bt603.2.2)) else (spec_l2Of.j0 k a1 false s0_0 s0_1 s0_2)
theorem spec_l2Of.mono_l : ∀ k,(∀ y0 y1 y2 y3 y4,LeO (spec_l2Of.j0 k y0 y1 y2 y3 y4) (spec_l2Of.j0 (k + 1) y0 y1 y2 y3 y4))
 | 0=>fun _ _ _ _ _ r h=>by simp [spec_l2Of.j0] at h
 | k + 1=>by
  have ih0:=spec_l2Of.mono_l k
  ·intro y0 y1 y2 y3 y4
   unfold spec_l2Of.j0
   repeat' first
   | (with_reducible exact ih0 _ _ _ _ _)
   | (with_reducible exact LeO.refl _)
   | (with_reducible exact LeO.none _)
   | (with_reducible refine LeO.ite ?_ ?_)
   | (with_reducible refine LeO.bind ?_ (fun _=>?_))
   | exact ih0 _ _ _ _ _
   | exact LeO.none _
   | refine LeO.ite ?_ ?_
   | refine LeO.bind ?_ (fun _=>?_)
theorem spec_l2Of.mono : ∀ a0 a1 a2 a3 a4 k,LeO (spec_l2Of.f k a0 a1 a2 a3 a4) (spec_l2Of.f (k + 1) a0 a1 a2 a3 a4):=by
 intro a0 a1 a2 a3 a4 k
 have ih0:=spec_l2Of.mono_l k
 unfold spec_l2Of.f
 repeat' first
   | (with_reducible exact ih0 _ _ _ _ _)
   | (with_reducible exact LeO.refl _)
   | (with_reducible exact LeO.none _)
   | (with_reducible refine LeO.ite ?_ ?_)
   | (with_reducible refine LeO.bind ?_ (fun _=>?_))
   | exact ih0 _ _ _ _ _
   | exact LeO.none _
   | refine LeO.ite ?_ ?_
   | refine LeO.bind ?_ (fun _=>?_)
set_option maxHeartbeats 8000000 in
set_option maxRecDepth 100000 in
theorem spec_l2Of.calls (k : Nat) (g : Nat) (s0_0 : List Int) (s0_1 : Int) (s0_2 : Int) (a1 : Int) (a2 : Bool) (r1 : Int) (r2 : Int) (r3 : ByteArray) (r4 : Int) (r5 : Int) (w0 w : World) (hI : J155 w0 w g s0_0 s0_1 s0_2) (hB : Below w0.heap.size w0 w) (h : spec_l2Of.f k s0_0 s0_1 s0_2 a1 a2 = some (r1,r2,r3,r4,r5)) :
  Calls Try.prog 180 #[.pointer (some ⟨g,0,none⟩),.int .i64 a1,.bool a2] w fun e w'=>e = .returned (.agg #[.int .i64 r1,.int .i64 r2,.string r3]) ∧ J155 w0 w' g s0_0 r4 r5 ∧ Below w0.heap.size w0 w' ∧ KeepBut w w' g none:=by
 have hu116:=Try.underlying116
 have HI0:=aM_ hI
 have HK:=aM_ (KeepBut.refl w g none)
 have HL:=aM_ hB.size
 clear hI
 have HW0:=aM_ hB.size
 have HB:=aM_ hB
 clear hB
 have H : (if a2 = true then ((spec_l1Once.f s0_0 s0_1 s0_2 4).bind fun bt603=>(spec_l2Of.j0 k a1 bt603.1 s0_0 bt603.2.1 bt603.2.2)) else (spec_l2Of.j0 k a1 false s0_0 s0_1 s0_2)) = some (r1,r2,r3,r4,r5):=h
 clear h
 have HC4:=aM_ H
 clear H
 go_enter Try.func180,Try.ntmps180
 go_upto_region 1 with (first | ((with_reducible refine gate_dst (N:=6) rfl ?_);refine box_event ?hg (N:=6) ?hd (cs:=#[.int .i64 0,.int .i64 0,.string (⟨#[]⟩ : ByteArray)]) (t:=116) ?hr ?_;(case hd=>rfl);(case hg=>rfl);(case hr=>first | (go_simp;done) | (go_simp;rfl));intro gb602 hg w5 hbox hb;have n0_:=aM_ (J155.below (by repeat first | exact J155.z HI0 | apply J155.set_1 | apply J155.set_2 | refine J155.y ?_) hb);have n1_:=aM_ (KeepBut.trans (by exact eZ_ HK) (KeepBut.of_below hb g none) (.inl rfl));have n2_:=aM_ (bT_ (by have e0_:=aM_ (J155.ge HI0.out);exact bZ_ HB) hb);have n3_:=aM_ (hbox);have n4_:=aM_ ((by rw [hg];exact (keep_size (w:=w) (g:=g) (row:=none) (by exact eZ_ HK)) : w.heap.size ≤ gb602));have n5_:=aM_ ((Nat.le_trans HW0.out (by rw [hg];exact (keep_size (w:=w) (g:=g) (row:=none) (by exact eZ_ HK)) : w.heap.size ≤ gb602) : w0.heap.size ≤ gb602));have n6_:=aM_ ((by rw [hg];exact nN_ (J155.lt (show J155 w0 _ g s0_0 s0_1 s0_2 from by repeat first | exact J155.z HI0 | apply J155.set_1 | apply J155.set_2 | refine J155.y ?_)) : g ≠ gb602));have n7_:=aM_ ((by rw [hg];exact Nat.ne_of_gt (J155.lt (show J155 w0 _ g s0_0 s0_1 s0_2 from by repeat first | exact J155.z HI0 | apply J155.set_1 | apply J155.set_2 | refine J155.y ?_)) : gb602 ≠ g));clear HI0;clear HK;clear HB;have HI0:=n0_;have HK:=n1_;have HB:=n2_;have BK602:=n3_;have GW602:=n4_;have GE602:=n5_;have NB0_602:=n6_;have NB602_0:=n7_;clear n0_ n1_ n2_ n3_ n4_ n5_ n6_ n7_;clear hb hbox hg))
 (try simp only [Act.put,sI_,sZ_,sS_])
 go_cut [12] (fun v12 wc=>∃ (kq : Nat) (x12_3 : Bool) (x1001_3 : Int) (x1002_3 : Int),v12 = .bool x12_3 ∧ Aside0 (spec_l2Of.j0 kq a1 x12_3 s0_0 x1001_3 x1002_3 = some (r1,r2,r3,r4,r5)) ∧ Aside0 (kq ≤ k) ∧ Aside0 (wc.heap[gb602]? = some (.cells #[.int .i64 0,.int .i64 0,.string (⟨#[]⟩ : ByteArray)] 116 (0,0))) ∧ Aside0 (J155 w0 wc g s0_0 x1001_3 x1002_3) ∧ Aside0 (KeepBut w wc g none) ∧ Aside0 (Below w0.heap.size w0 wc))
 case first =>
  have H:=HC4.out
  clear HC4
  by_cases c6 : a2 = true
  ·subst c6
   have H1 : ((spec_l1Once.f s0_0 s0_1 s0_2 4).bind fun bt603=>(spec_l2Of.j0 k a1 bt603.1 s0_0 bt603.2.1 bt603.2.2)) = some (r1,r2,r3,r4,r5):=by rw [if_pos rfl] at H;exact H
   clear H
   have H:=H1
   clear H1
   replace H:=oB_ H
   obtain ⟨⟨t603,t604,t605⟩,A70,H⟩:=H
   replace H : (spec_l2Of.j0 k a1 t603 s0_0 t604 t605) = some (r1,r2,r3,r4,r5):=H
   have A7:=aM_ A70
   clear A70
   have H':=aM_ H
   clear H
   go_wp2_with (first | (go_at_call 107;(with_reducible refine (spec_l1Once.calls g s0_0 s0_1 s0_2 4 t603 t604 t605 w0 _ ?side1 ?side2 A7.out).mono ?_);(case side1=>repeat first | exact J155.z HI0 | apply J155.set_1 | apply J155.set_2 | refine J155.y ?_);(case side2=>have e0_:=aM_ (J155.ge HI0.out);exact bZ_ HB);rintro e w8 ⟨rfl,hi,hb,hk⟩;have n0_:=aM_ (KeepBut.blk hk (g':=gb602) (o:=.cells #[.int .i64 0,.int .i64 0,.string (⟨#[]⟩ : ByteArray)] 116 (0,0)) (by exact kZ_ BK602) NB602_0.out (by simp));have n1_:=aM_ (KeepBut.trans (by exact eZ_ HK) hk (.inl rfl));have n2_:=aM_ (hb);have n3_:=aM_ (hi);clear BK602;clear HK;clear HB;clear HI0;have BK602:=n0_;have HK:=n1_;have HB:=n2_;have HI0:=n3_;clear n0_ n1_ n2_ n3_;(try clear hb);(try clear hb2);(try clear hk);(try clear hi)))
   (first | go_meet | (refine Met.intro ?_;go_step;(repeat apply Exists.intro);refine ⟨?rel,?eq⟩;(case eq=>(try simp only [c10b0]);(try simp only [c20b0]);(try simp only [c20b0]);rfl)))
   case rel=>exact ⟨_,(t603),(t604),(t605),(by first | rfl | (simp;done) | (simp [*];done)),H', ⟨by first | omega | exact Nat.le_refl _⟩,⟨by exact kZ_ BK602⟩,⟨by repeat first | exact J155.z HI0 | apply J155.set_1 | apply J155.set_2 | refine J155.y ?_⟩,⟨by exact eZ_ HK⟩,⟨by have e0_:=aM_ (J155.ge HI0.out);exact bZ_ HB⟩⟩
  ·replace c6:=Bool.eq_false_iff.mpr c6
   subst c6
   have H1 : (spec_l2Of.j0 k a1 false s0_0 s0_1 s0_2) = some (r1,r2,r3,r4,r5):=by rw [if_neg (show ¬ (false = true) by decide)] at H;exact H
   clear H
   have H:=H1
   clear H1
   have H':=aM_ H
   clear H
   go_wp2
   (first | go_meet | (refine Met.intro ?_;go_step;(repeat apply Exists.intro);refine ⟨?rel,?eq⟩;(case eq=>(try simp only [c10b0]);(try simp only [c20b0]);(try simp only [c20b0]);rfl)))
   case rel=>exact ⟨_,(false),(s0_1),(s0_2),(by first | rfl | (simp;done) | (simp [*];done)),H', ⟨by first | omega | exact Nat.le_refl _⟩,⟨by exact kZ_ BK602⟩,⟨by repeat first | exact J155.z HI0 | apply J155.set_1 | apply J155.set_2 | refine J155.y ?_⟩,⟨by exact eZ_ HK⟩,⟨by have e0_:=aM_ (J155.ge HI0.out);exact bZ_ HB⟩⟩
 case rest =>
  clear HC4
  try clear c1
  try clear c2
  try clear p2
  try clear c6
  obtain ⟨kq,x12_3,x1001_3,x1002_3,rfl,HA,HJ3,BK602,HI0,HK,HB⟩:=hcut
  cases kq with
  | zero=>exact absurd HA.out (by simp [spec_l2Of.j0])
  | succ kj3 =>
   have H:=HA.out
   clear HA
   simp only [spec_l2Of.j0] at H
   by_cases c9 : x12_3 = true
   ·subst c9
    have H1 : (some (0,0,(⟨#[]⟩ : ByteArray),x1001_3,x1002_3)) = some (r1,r2,r3,r4,r5):=by rw [if_pos rfl] at H;exact H
    clear H
    have H:=H1
    clear H1
    simp only [Option.some.injEq,Prod.mk.injEq] at H
    obtain ⟨rfl,rfl,rfl,rfl,rfl⟩:=H
    have hnb10:=NB602_0.out
    have hnc10:=NB0_602.out
    have hcz11_0 : wc.cell? ⟨gb602,0,none⟩ = some (.int .i64 0):=(kC_ BK602.out 0).trans rfl
    have hcz11_1 : wc.cell? ⟨gb602,1,none⟩ = some (.int .i64 0):=(kC_ BK602.out 1).trans rfl
    have hcz11_2 : wc.cell? ⟨gb602,2,none⟩ = some (.string (⟨#[]⟩ : ByteArray)):=(kC_ BK602.out 2).trans rfl
    have hfz11_0:=kF_ BK602.out 0
    have hfz11_1:=kF_ BK602.out 1
    have hfz11_2:=kF_ BK602.out 2
    go_wp2
    refine bodyPost_ret (results_cell_row rfl _ _ gb602 116 #[.int .i64 0,.int .i64 0,.string (⟨#[]⟩ : ByteArray)] (0,0) _ rfl (by (with_reducible repeat (first | refine kN_ ?_ _ | refine kD_ ?_ | refine kA_ ?_ _));refine kP_ (cs:=#[.int .i64 0,.int .i64 0,.string (⟨#[]⟩ : ByteArray)]) ?_ 2 _ rfl;(with_reducible repeat (first | refine kN_ ?_ _ | refine kD_ ?_ | refine kA_ ?_ _));refine kP_ (cs:=#[.int .i64 0,.int .i64 0,.string (⟨#[]⟩ : ByteArray)]) ?_ 1 _ rfl;(with_reducible repeat (first | refine kN_ ?_ _ | refine kD_ ?_ | refine kA_ ?_ _));refine kP_ (cs:=#[.int .i64 0,.int .i64 0,.string (⟨#[]⟩ : ByteArray)]) ?_ 0 _ rfl;exact kZ_ BK602) Try.underlying116 rfl (by kernel_rfl)) rfl ?_
    exact ⟨by first | rfl | (simp [errW_none,errW_some] <;> rfl) | (simp [*, errW_none,errW_some] <;> rfl),by repeat first | exact J155.z HI0 | apply J155.set_1 | apply J155.set_2 | refine J155.y ?_,by have e0_:=aM_ (J155.ge HI0.out);exact bZ_ HB,by exact eZ_ HK⟩
   ·replace c9:=Bool.eq_false_iff.mpr c9
    subst c9
    have H1 : (if a1 = 1 then ((spec_l1Int.f s0_0 x1001_3 x1002_3 (([0,1,2,3,(-1),255,256,2147483647,(-2147483648)] : List Int))).bind fun bt610=>(some (a1,bt610.1,(⟨#[]⟩ : ByteArray),bt610.2.1,bt610.2.2))) else (if a1 = 2 then ((spec_l1Below.f s0_0 x1001_3 x1002_3 100000).bind fun bt613=>((spec_l1Int.f s0_0 bt613.2.1 bt613.2.2 (([0,1,(-1),255,256,(-256),(-257),65535,1000000000000000,(-1000000000000000),wrap64 (-bt613.1)] : List Int))).bind fun bt619=>(some (a1,bt619.1,(⟨#[]⟩ : ByteArray),bt619.2.1,bt619.2.2)))) else (if a1 = 3 then ((spec_l2Text.f s0_0 x1001_3 x1002_3).bind fun bt622=>(some (a1,0,bt622.1,bt622.2.1,bt622.2.2))) else ((spec_l1Below.f s0_0 x1001_3 x1002_3 2).bind fun bt625=>(some (a1,bt625.1,(⟨#[]⟩ : ByteArray),bt625.2.1,bt625.2.2)))))) = some (r1,r2,r3,r4,r5):=by rw [if_neg (show ¬ (false = true) by decide)] at H;exact H
    clear H
    have H:=H1
    clear H1
    by_cases c12 : a1 = 1
    ·rw [if_pos c12] at H
     have c12b0 : (a1 == 1) = true:=beq_iff_eq.mpr c12
     have c12b1 : (a1 != 1) = false:=bne_eq_false_iff_eq.mpr c12
     clear c12
     obtain ⟨y607,hy607⟩ : ∃ y_ : List Int,y_ = (([0,1,2,3,(-1),255,256,2147483647,(-2147483648)] : List Int)):=⟨_,rfl⟩
     replace H : ((spec_l1Int.f s0_0 x1001_3 x1002_3 y607).bind fun bt610=>(some (a1,bt610.1,(⟨#[]⟩ : ByteArray),bt610.2.1,bt610.2.2))) = some (r1,r2,r3,r4,r5):=by first | (rw [hy607];with_reducible exact H) | (have H2_:=(Option.bind_some _ _).symm.trans H;rw [hy607];with_reducible exact H2_) | (have H2_:=(Option.bind_some _ _).symm.trans H;with_reducible exact H2_) | with_reducible exact H | (rw [hy607];exact H) | exact H
     have Ny607:=aM_ hy607
     clear hy607
     replace H:=oB_ H
     obtain ⟨⟨t610,t611,t612⟩,A130,H⟩:=H
     replace H : (some (a1,t610,(⟨#[]⟩ : ByteArray),t611,t612)) = some (r1,r2,r3,r4,r5):=H
     have A13:=aM_ A130
     clear A130
     simp only [Option.some.injEq,Prod.mk.injEq] at H
     obtain ⟨rfl,rfl,rfl,rfl,rfl⟩:=H
     go_wp2_with (first | ((with_reducible refine gate_dst (N:=7) rfl ?_);refine box_event ?hg (N:=7) ?hd (cs:=#[.int .i64 0,.int .i64 0,.string (⟨#[]⟩ : ByteArray)]) (t:=116) ?hr ?_;(case hd=>rfl);(case hg=>rfl);(case hr=>first | (go_simp;done) | (go_simp;rfl));intro gb606 hg w14 hbox hb;have n0_:=aM_ (blk_below (g:=gb602) (o:=.cells #[.int .i64 0,.int .i64 0,.string (⟨#[]⟩ : ByteArray)] 116 (0,0)) (by exact kZ_ BK602) hb);have n1_:=aM_ (J155.below (by repeat first | exact J155.z HI0 | apply J155.set_1 | apply J155.set_2 | refine J155.y ?_) hb);have n2_:=aM_ (KeepBut.trans (by exact eZ_ HK) (KeepBut.of_below hb g none) (.inl rfl));have n3_:=aM_ (bT_ (by have e0_:=aM_ (J155.ge HI0.out);exact bZ_ HB) hb);have n4_:=aM_ (hbox);have n5_:=aM_ ((by rw [hg];exact (keep_size (w:=w) (g:=g) (row:=none) (by exact eZ_ HK)) : w.heap.size ≤ gb606));have n6_:=aM_ ((Nat.le_trans HW0.out (by rw [hg];exact (keep_size (w:=w) (g:=g) (row:=none) (by exact eZ_ HK)) : w.heap.size ≤ gb606) : w0.heap.size ≤ gb606));have n7_:=aM_ ((by rw [hg];exact nN_ (blk_lt (g:=gb602) (o:=.cells #[.int .i64 0,.int .i64 0,.string (⟨#[]⟩ : ByteArray)] 116 (0,0)) (by exact kZ_ BK602)) : gb602 ≠ gb606));have n8_:=aM_ ((by rw [hg];exact Nat.ne_of_gt (blk_lt (g:=gb602) (o:=.cells #[.int .i64 0,.int .i64 0,.string (⟨#[]⟩ : ByteArray)] 116 (0,0)) (by exact kZ_ BK602)) : gb606 ≠ gb602));have n9_:=aM_ ((by rw [hg];exact nN_ (J155.lt (show J155 w0 _ g s0_0 x1001_3 x1002_3 from by repeat first | exact J155.z HI0 | apply J155.set_1 | apply J155.set_2 | refine J155.y ?_)) : g ≠ gb606));have n10_:=aM_ ((by rw [hg];exact Nat.ne_of_gt (J155.lt (show J155 w0 _ g s0_0 x1001_3 x1002_3 from by repeat first | exact J155.z HI0 | apply J155.set_1 | apply J155.set_2 | refine J155.y ?_)) : gb606 ≠ g));clear BK602;clear HI0;clear HK;clear HB;have BK602:=n0_;have HI0:=n1_;have HK:=n2_;have HB:=n3_;have BK606:=n4_;have GW606:=n5_;have GE606:=n6_;have NB602_606:=n7_;have NB606_602:=n8_;have NB0_606:=n9_;have NB606_0:=n10_;clear n0_ n1_ n2_ n3_ n4_ n5_ n6_ n7_ n8_ n9_ n10_;clear hb hbox hg;have hnb15:=NB606_602.out;have hnc15:=NB602_606.out;have hnb16:=NB606_0.out;have hnc16:=NB0_606.out;have hcz17_0 : w14.cell? ⟨gb606,0,none⟩ = some (.int .i64 0):=(kC_ BK606.out 0).trans rfl;have hcz17_1 : w14.cell? ⟨gb606,1,none⟩ = some (.int .i64 0):=(kC_ BK606.out 1).trans rfl;have hcz17_2 : w14.cell? ⟨gb606,2,none⟩ = some (.string (⟨#[]⟩ : ByteArray)):=(kC_ BK606.out 2).trans rfl;have hfz17_0:=kF_ BK606.out 0;have hfz17_1:=kF_ BK606.out 1;have hfz17_2:=kF_ BK606.out 2) | ((with_reducible refine gate_dst (N:=23) rfl ?_);refine Kd.R_lit (Kd.int .i64) _ 3 ?hg (N:=23) ?hd (xs:=([0,1,2,3,(-1),255,256,2147483647,(-2147483648)] : List Int)) (inner:=[.int .i64 0,.int .i64 1,.int .i64 2,.int .i64 3,.int .i64 (-1),.int .i64 255,.int .i64 256,.int .i64 2147483647,.int .i64 (-2147483648)]) (ok:=fun _=>True) (okp:=fun _=>True) ?hr ?hp (fun _ hk=>hk) trivial (Below.refl _ _) (Nat.le_refl _) (by simp) ?_;(case hd=>rfl);(case hg=>rfl);(case hr=>first | (go_simp;done) | (go_simp;rfl));(case hp=>exact (Reps.one (show Kd.M (Kd.int .i64) _ _ _ 0 [.int .i64 0] from rfl) (Reps.one (show Kd.M (Kd.int .i64) _ _ _ 1 [.int .i64 1] from rfl) (Reps.one (show Kd.M (Kd.int .i64) _ _ _ 2 [.int .i64 2] from rfl) (Reps.one (show Kd.M (Kd.int .i64) _ _ _ 3 [.int .i64 3] from rfl) (Reps.one (show Kd.M (Kd.int .i64) _ _ _ (-1) [.int .i64 (-1)] from rfl) (Reps.one (show Kd.M (Kd.int .i64) _ _ _ 255 [.int .i64 255] from rfl) (Reps.one (show Kd.M (Kd.int .i64) _ _ _ 256 [.int .i64 256] from rfl) (Reps.one (show Kd.M (Kd.int .i64) _ _ _ 2147483647 [.int .i64 2147483647] from rfl) (Reps.one (show Kd.M (Kd.int .i64) _ _ _ (-2147483648) [.int .i64 (-2147483648)] from rfl) (Reps.none _ _)))))))))));intro v608 w18 ho19 hb hg_ hnew_;clear hg_ hnew_;(first | rw [← Ny607.out] at ho19 | (simp only [Int.reduceToNat] at ho19;rw [← Ny607.out] at ho19));have n0_:=aM_ (Kd.R_lower ho19 (keep_size (w:=w) (g:=g) (row:=none) (by exact eZ_ HK)));have n1_:=aM_ (blk_below (g:=gb602) (o:=.cells #[.int .i64 0,.int .i64 0,.string (⟨#[]⟩ : ByteArray)] 116 (0,0)) (by exact kW_ BK602) hb);have n2_:=aM_ (J155.below (show J155 w0 (((w14.setCell ⟨gb606,0,none⟩ (.int .i64 a1)).setCell ⟨gb606,1,none⟩ (.int .i64 0)).setCell ⟨gb606,2,none⟩ (.string (⟨#[]⟩ : ByteArray))) g s0_0 x1001_3 x1002_3 from by repeat first | exact J155.z HI0 | apply J155.set_1 | apply J155.set_2 | refine J155.y ?_) hb);have n3_:=aM_ (blk_below (g:=gb606) (o:=.cells #[.int .i64 a1,.int .i64 0,.string (⟨#[]⟩ : ByteArray)] 116 (0,0)) (by (with_reducible repeat (first | refine kN_ ?_ _ | refine kD_ ?_ | refine kA_ ?_ _));refine kP_ (cs:=#[.int .i64 a1,.int .i64 0,.string (⟨#[]⟩ : ByteArray)]) ?_ 2 _ rfl;(with_reducible repeat (first | refine kN_ ?_ _ | refine kD_ ?_ | refine kA_ ?_ _));refine kP_ (cs:=#[.int .i64 a1,.int .i64 0,.string (⟨#[]⟩ : ByteArray)]) ?_ 1 _ rfl;(with_reducible repeat (first | refine kN_ ?_ _ | refine kD_ ?_ | refine kA_ ?_ _));refine kP_ (cs:=#[.int .i64 0,.int .i64 0,.string (⟨#[]⟩ : ByteArray)]) ?_ 0 _ rfl;exact kZ_ BK606) hb);have n4_:=aM_ (KeepBut.trans (by exact eZ_ HK) (KeepBut.of_below hb g none) (.inl rfl));have n5_:=aM_ (bT_ (by have e0_:=aM_ (J155.ge HI0.out);exact bZ_ HB) hb);clear BK602;clear HI0;clear BK606;clear HK;clear HB;have HO609:=n0_;have BK602:=n1_;have HI0:=n2_;have BK606:=n3_;have HK:=n4_;have HB:=n5_;clear n0_ n1_ n2_ n3_ n4_ n5_;clear hb ho19;obtain ⟨Ao20,co20,eo20⟩:=Kd.R_slice HO609.out;subst eo20) | ((with_reducible refine gate_callee (f:=145) rfl ?_);refine goesL_ (some 24) rfl rfl Try.func145 (by kernel_rfl) rfl #[.pointer (some ⟨g,0,none⟩),.slice Ao20 y607.length co20] rfl (by (try simp only [mA_,mC_,mN_]);first | done | rfl | (simp only [lD_,lT_];rfl)) ?_;(with_reducible refine (spec_l1Int.calls g s0_0 x1001_3 x1002_3 _ _ y607 t610 t611 t612 w0 _ ?side1 ?side2 ?side3 ?side4 ?side5 A13.out).mono ?_);(case side1=>repeat first | exact J155.z HI0 | apply J155.set_1 | apply J155.set_2 | refine J155.y ?_);(case side2=>have e0_:=aM_ (J155.ge HI0.out);exact bZ_ HB);(case side3=>repeat (first | exact (Kd.R_reads' HO609.out).2.2 | (with_reducible refine cA_ ?_ _) | (with_reducible refine cN_ ?_ _) | (with_reducible refine cD_ ?_)));(case side4=>exact (Kd.R_reads' HO609.out).2.1);(case side5=>exact far_slice (J155.own_ne HI0.out HO609.out (by decide)));rintro e w21 ⟨rfl,hi,hb,hk⟩;refine ⟨_,rfl,?_⟩;have n0_:=aM_ (KeepBut.blk hk (g':=gb602) (o:=.cells #[.int .i64 0,.int .i64 0,.string (⟨#[]⟩ : ByteArray)] 116 (0,0)) (by exact kZ_ BK602) NB602_0.out (by simp));have n1_:=aM_ (KeepBut.blk hk (g':=gb606) (o:=.cells #[.int .i64 a1,.int .i64 0,.string (⟨#[]⟩ : ByteArray)] 116 (0,0)) (by exact kZ_ BK606) NB606_0.out (by simp));have n2_:=aM_ (Kd.R_mono (Kd.R_keep (J155.apart (show J155 w0 _ g s0_0 x1001_3 x1002_3 from by repeat first | exact J155.z HI0 | apply J155.set_1 | apply J155.set_2 | refine J155.y ?_) (by exact rZ_ HO609) (by decide)) hk (fun _ h=>h.2)) (fun _ h=>h.1));have n3_:=aM_ (KeepBut.trans (by exact eZ_ HK) hk (.inl rfl));have n4_:=aM_ (hb);have n5_:=aM_ (hi);clear BK602;clear BK606;clear HO609;clear HK;clear HB;clear HI0;have BK602:=n0_;have BK606:=n1_;have HO609:=n2_;have HK:=n3_;have HB:=n4_;have HI0:=n5_;clear n0_ n1_ n2_ n3_ n4_ n5_;(try clear hb);(try clear hb2);(try clear hk);(try clear hi);have hcz22_0 : w21.cell? ⟨gb606,0,none⟩ = some (.int .i64 a1):=(kC_ BK606.out 0).trans rfl;have hcz22_1 : w21.cell? ⟨gb606,1,none⟩ = some (.int .i64 0):=(kC_ BK606.out 1).trans rfl;have hcz22_2 : w21.cell? ⟨gb606,2,none⟩ = some (.string (⟨#[]⟩ : ByteArray)):=(kC_ BK606.out 2).trans rfl;have hfz22_0:=kF_ BK606.out 0;have hfz22_1:=kF_ BK606.out 1;have hfz22_2:=kF_ BK606.out 2;have hnb23:=NB602_0.out;have hnc23:=NB0_602.out;have hcz24_0 : w21.cell? ⟨gb602,0,none⟩ = some (.int .i64 0):=(kC_ BK602.out 0).trans rfl;have hcz24_1 : w21.cell? ⟨gb602,1,none⟩ = some (.int .i64 0):=(kC_ BK602.out 1).trans rfl;have hcz24_2 : w21.cell? ⟨gb602,2,none⟩ = some (.string (⟨#[]⟩ : ByteArray)):=(kC_ BK602.out 2).trans rfl;have hfz24_0:=kF_ BK602.out 0;have hfz24_1:=kF_ BK602.out 1;have hfz24_2:=kF_ BK602.out 2))
     refine bodyPost_ret (results_cell_row rfl _ _ gb602 116 #[.int .i64 a1,.int .i64 t610,.string (⟨#[]⟩ : ByteArray)] (0,0) _ rfl (by (with_reducible repeat (first | refine kN_ ?_ _ | refine kD_ ?_ | refine kA_ ?_ _));refine kP_ (cs:=#[.int .i64 a1,.int .i64 t610,.string (⟨#[]⟩ : ByteArray)]) ?_ 2 _ rfl;(with_reducible repeat (first | refine kN_ ?_ _ | refine kD_ ?_ | refine kA_ ?_ _));refine kP_ (cs:=#[.int .i64 a1,.int .i64 0,.string (⟨#[]⟩ : ByteArray)]) ?_ 1 _ rfl;(with_reducible repeat (first | refine kN_ ?_ _ | refine kD_ ?_ | refine kA_ ?_ _));refine kP_ (cs:=#[.int .i64 0,.int .i64 0,.string (⟨#[]⟩ : ByteArray)]) ?_ 0 _ rfl;exact kW_ BK602) Try.underlying116 rfl (by kernel_rfl)) rfl ?_
     exact ⟨by first | rfl | (simp [errW_none,errW_some] <;> rfl) | (simp [*, errW_none,errW_some] <;> rfl),by repeat first | exact J155.z HI0 | apply J155.set_1 | apply J155.set_2 | refine J155.y ?_,by have e0_:=aM_ (J155.ge HI0.out);exact bZ_ HB,by exact eZ_ HK⟩
    ·rw [if_neg c12] at H
     have c12b0 : (a1 == 1) = false:=beq_eq_false_iff_ne.mpr c12
     have c12b1 : (a1 != 1) = true:=bne_iff_ne.mpr c12
     by_cases c25 : a1 = 2
     ·rw [if_pos c25] at H
      have c25b0 : (a1 == 2) = true:=beq_iff_eq.mpr c25
      have c25b1 : (a1 != 2) = false:=bne_eq_false_iff_eq.mpr c25
      clear c25
      replace H:=oB_ H
      obtain ⟨⟨t613,t614,t615⟩,A260,H⟩:=H
      replace H : ((spec_l1Int.f s0_0 t614 t615 (([0,1,(-1),255,256,(-256),(-257),65535,1000000000000000,(-1000000000000000),wrap64 (-t613)] : List Int))).bind fun bt619=>(some (a1,bt619.1,(⟨#[]⟩ : ByteArray),bt619.2.1,bt619.2.2))) = some (r1,r2,r3,r4,r5):=H
      have A26:=aM_ A260
      clear A260
      obtain ⟨y616,hy616⟩ : ∃ y_ : List Int,y_ = (([0,1,(-1),255,256,(-256),(-257),65535,1000000000000000,(-1000000000000000),wrap64 (-t613)] : List Int)):=⟨_,rfl⟩
      replace H : ((spec_l1Int.f s0_0 t614 t615 y616).bind fun bt619=>(some (a1,bt619.1,(⟨#[]⟩ : ByteArray),bt619.2.1,bt619.2.2))) = some (r1,r2,r3,r4,r5):=by first | (rw [hy616];with_reducible exact H) | (have H2_:=(Option.bind_some _ _).symm.trans H;rw [hy616];with_reducible exact H2_) | (have H2_:=(Option.bind_some _ _).symm.trans H;with_reducible exact H2_) | with_reducible exact H | (rw [hy616];exact H) | exact H
      have Ny616:=aM_ hy616
      clear hy616
      replace H:=oB_ H
      obtain ⟨⟨t619,t620,t621⟩,A270,H⟩:=H
      replace H : (some (a1,t619,(⟨#[]⟩ : ByteArray),t620,t621)) = some (r1,r2,r3,r4,r5):=H
      have A27:=aM_ A270
      clear A270
      simp only [Option.some.injEq,Prod.mk.injEq] at H
      obtain ⟨rfl,rfl,rfl,rfl,rfl⟩:=H
      go_wp2_with (first | ((with_reducible refine gate_dst (N:=7) rfl ?_);refine box_event ?hg (N:=7) ?hd (cs:=#[.int .i64 0,.int .i64 0,.string (⟨#[]⟩ : ByteArray)]) (t:=116) ?hr ?_;(case hd=>rfl);(case hg=>rfl);(case hr=>first | (go_simp;done) | (go_simp;rfl));intro gb606 hg w28 hbox hb;have n0_:=aM_ (blk_below (g:=gb602) (o:=.cells #[.int .i64 0,.int .i64 0,.string (⟨#[]⟩ : ByteArray)] 116 (0,0)) (by exact kZ_ BK602) hb);have n1_:=aM_ (J155.below (by repeat first | exact J155.z HI0 | apply J155.set_1 | apply J155.set_2 | refine J155.y ?_) hb);have n2_:=aM_ (KeepBut.trans (by exact eZ_ HK) (KeepBut.of_below hb g none) (.inl rfl));have n3_:=aM_ (bT_ (by have e0_:=aM_ (J155.ge HI0.out);exact bZ_ HB) hb);have n4_:=aM_ (hbox);have n5_:=aM_ ((by rw [hg];exact (keep_size (w:=w) (g:=g) (row:=none) (by exact eZ_ HK)) : w.heap.size ≤ gb606));have n6_:=aM_ ((Nat.le_trans HW0.out (by rw [hg];exact (keep_size (w:=w) (g:=g) (row:=none) (by exact eZ_ HK)) : w.heap.size ≤ gb606) : w0.heap.size ≤ gb606));have n7_:=aM_ ((by rw [hg];exact nN_ (blk_lt (g:=gb602) (o:=.cells #[.int .i64 0,.int .i64 0,.string (⟨#[]⟩ : ByteArray)] 116 (0,0)) (by exact kZ_ BK602)) : gb602 ≠ gb606));have n8_:=aM_ ((by rw [hg];exact Nat.ne_of_gt (blk_lt (g:=gb602) (o:=.cells #[.int .i64 0,.int .i64 0,.string (⟨#[]⟩ : ByteArray)] 116 (0,0)) (by exact kZ_ BK602)) : gb606 ≠ gb602));have n9_:=aM_ ((by rw [hg];exact nN_ (J155.lt (show J155 w0 _ g s0_0 x1001_3 x1002_3 from by repeat first | exact J155.z HI0 | apply J155.set_1 | apply J155.set_2 | refine J155.y ?_)) : g ≠ gb606));have n10_:=aM_ ((by rw [hg];exact Nat.ne_of_gt (J155.lt (show J155 w0 _ g s0_0 x1001_3 x1002_3 from by repeat first | exact J155.z HI0 | apply J155.set_1 | apply J155.set_2 | refine J155.y ?_)) : gb606 ≠ g));clear BK602;clear HI0;clear HK;clear HB;have BK602:=n0_;have HI0:=n1_;have HK:=n2_;have HB:=n3_;have BK606:=n4_;have GW606:=n5_;have GE606:=n6_;have NB602_606:=n7_;have NB606_602:=n8_;have NB0_606:=n9_;have NB606_0:=n10_;clear n0_ n1_ n2_ n3_ n4_ n5_ n6_ n7_ n8_ n9_ n10_;clear hb hbox hg;have hnb29:=NB606_602.out;have hnc29:=NB602_606.out;have hnb30:=NB606_0.out;have hnc30:=NB0_606.out;have hcz31_0 : w28.cell? ⟨gb606,0,none⟩ = some (.int .i64 0):=(kC_ BK606.out 0).trans rfl;have hcz31_1 : w28.cell? ⟨gb606,1,none⟩ = some (.int .i64 0):=(kC_ BK606.out 1).trans rfl;have hcz31_2 : w28.cell? ⟨gb606,2,none⟩ = some (.string (⟨#[]⟩ : ByteArray)):=(kC_ BK606.out 2).trans rfl;have hfz31_0:=kF_ BK606.out 0;have hfz31_1:=kF_ BK606.out 1;have hfz31_2:=kF_ BK606.out 2) | ((with_reducible refine gate_callee (f:=125) rfl ?_);refine goesL_ (some 30) rfl rfl Try.func125 (by kernel_rfl) rfl #[.pointer (some ⟨g,0,none⟩),.int .i64 100000] rfl (by (try simp only [mA_,mC_,mN_]);first | done | rfl | (simp only [lD_,lT_];rfl)) ?_;(with_reducible refine (spec_l1Below.calls g s0_0 x1001_3 x1002_3 100000 t613 t614 t615 w0 _ ?side1 ?side2 A26.out).mono ?_);(case side1=>repeat first | exact J155.z HI0 | apply J155.set_1 | apply J155.set_2 | refine J155.y ?_);(case side2=>have e0_:=aM_ (J155.ge HI0.out);exact bZ_ HB);rintro e w32 ⟨rfl,hi,hb,hk⟩;refine ⟨_,rfl,?_⟩;have n0_:=aM_ (KeepBut.blk hk (g':=gb602) (o:=.cells #[.int .i64 0,.int .i64 0,.string (⟨#[]⟩ : ByteArray)] 116 (0,0)) (by exact kW_ BK602) NB602_0.out (by simp));have n1_:=aM_ (KeepBut.blk hk (g':=gb606) (o:=.cells #[.int .i64 a1,.int .i64 0,.string (⟨#[]⟩ : ByteArray)] 116 (0,0)) (by (with_reducible repeat (first | refine kN_ ?_ _ | refine kD_ ?_ | refine kA_ ?_ _));refine kP_ (cs:=#[.int .i64 a1,.int .i64 0,.string (⟨#[]⟩ : ByteArray)]) ?_ 2 _ rfl;(with_reducible repeat (first | refine kN_ ?_ _ | refine kD_ ?_ | refine kA_ ?_ _));refine kP_ (cs:=#[.int .i64 a1,.int .i64 0,.string (⟨#[]⟩ : ByteArray)]) ?_ 1 _ rfl;(with_reducible repeat (first | refine kN_ ?_ _ | refine kD_ ?_ | refine kA_ ?_ _));refine kP_ (cs:=#[.int .i64 0,.int .i64 0,.string (⟨#[]⟩ : ByteArray)]) ?_ 0 _ rfl;exact kZ_ BK606) NB606_0.out (by simp));have n2_:=aM_ (KeepBut.trans (by exact eZ_ HK) hk (.inl rfl));have n3_:=aM_ (hb);have n4_:=aM_ (hi);clear BK602;clear BK606;clear HK;clear HB;clear HI0;have BK602:=n0_;have BK606:=n1_;have HK:=n2_;have HB:=n3_;have HI0:=n4_;clear n0_ n1_ n2_ n3_ n4_;(try clear hb);(try clear hb2);(try clear hk);(try clear hi)) | ((with_reducible refine gate_dst (N:=32) rfl ?_);refine Kd.R_lit (Kd.int .i64) _ 3 ?hg (N:=32) ?hd (xs:=([0,1,(-1),255,256,(-256),(-257),65535,1000000000000000,(-1000000000000000),wrap64 (-t613)] : List Int)) (inner:=[.int .i64 0,.int .i64 1,.int .i64 (-1),.int .i64 255,.int .i64 256,.int .i64 (-256),.int .i64 (-257),.int .i64 65535,.int .i64 1000000000000000,.int .i64 (-1000000000000000),.int .i64 (wrap64 (-t613))]) (ok:=fun _=>True) (okp:=fun _=>True) ?hr ?hp (fun _ hk=>hk) trivial (Below.refl _ _) (Nat.le_refl _) (by simp) ?_;(case hd=>rfl);(case hg=>rfl);(case hr=>first | (go_simp;done) | (go_simp;rfl));(case hp=>exact (Reps.one (show Kd.M (Kd.int .i64) _ _ _ 0 [.int .i64 0] from rfl) (Reps.one (show Kd.M (Kd.int .i64) _ _ _ 1 [.int .i64 1] from rfl) (Reps.one (show Kd.M (Kd.int .i64) _ _ _ (-1) [.int .i64 (-1)] from rfl) (Reps.one (show Kd.M (Kd.int .i64) _ _ _ 255 [.int .i64 255] from rfl) (Reps.one (show Kd.M (Kd.int .i64) _ _ _ 256 [.int .i64 256] from rfl) (Reps.one (show Kd.M (Kd.int .i64) _ _ _ (-256) [.int .i64 (-256)] from rfl) (Reps.one (show Kd.M (Kd.int .i64) _ _ _ (-257) [.int .i64 (-257)] from rfl) (Reps.one (show Kd.M (Kd.int .i64) _ _ _ 65535 [.int .i64 65535] from rfl) (Reps.one (show Kd.M (Kd.int .i64) _ _ _ 1000000000000000 [.int .i64 1000000000000000] from rfl) (Reps.one (show Kd.M (Kd.int .i64) _ _ _ (-1000000000000000) [.int .i64 (-1000000000000000)] from rfl) (Reps.one (show Kd.M (Kd.int .i64) _ _ _ (wrap64 (-t613)) [.int .i64 (wrap64 (-t613))] from rfl) (Reps.none _ _)))))))))))));intro v617 w33 ho34 hb hg_ hnew_;clear hg_ hnew_;(first | rw [← Ny616.out] at ho34 | (simp only [Int.reduceToNat] at ho34;rw [← Ny616.out] at ho34));have n0_:=aM_ (Kd.R_lower ho34 (keep_size (w:=w) (g:=g) (row:=none) (by exact eZ_ HK)));have n1_:=aM_ (blk_below (g:=gb602) (o:=.cells #[.int .i64 0,.int .i64 0,.string (⟨#[]⟩ : ByteArray)] 116 (0,0)) (by exact kZ_ BK602) hb);have n2_:=aM_ (J155.below (by repeat first | exact J155.z HI0 | apply J155.set_1 | apply J155.set_2 | refine J155.y ?_) hb);have n3_:=aM_ (blk_below (g:=gb606) (o:=.cells #[.int .i64 a1,.int .i64 0,.string (⟨#[]⟩ : ByteArray)] 116 (0,0)) (by exact kZ_ BK606) hb);have n4_:=aM_ (KeepBut.trans (by exact eZ_ HK) (KeepBut.of_below hb g none) (.inl rfl));have n5_:=aM_ (bT_ (by have e0_:=aM_ (J155.ge HI0.out);exact bZ_ HB) hb);clear BK602;clear HI0;clear BK606;clear HK;clear HB;have HO618:=n0_;have BK602:=n1_;have HI0:=n2_;have BK606:=n3_;have HK:=n4_;have HB:=n5_;clear n0_ n1_ n2_ n3_ n4_ n5_;clear hb ho34;obtain ⟨Ao35,co35,eo35⟩:=Kd.R_slice HO618.out;subst eo35) | ((with_reducible refine gate_callee (f:=145) rfl ?_);refine goesL_ (some 33) rfl rfl Try.func145 (by kernel_rfl) rfl #[.pointer (some ⟨g,0,none⟩),.slice Ao35 y616.length co35] rfl (by (try simp only [mA_,mC_,mN_]);first | done | rfl | (simp only [lD_,lT_];rfl)) ?_;(with_reducible refine (spec_l1Int.calls g s0_0 t614 t615 _ _ y616 t619 t620 t621 w0 _ ?side1 ?side2 ?side3 ?side4 ?side5 A27.out).mono ?_);(case side1=>repeat first | exact J155.z HI0 | apply J155.set_1 | apply J155.set_2 | refine J155.y ?_);(case side2=>have e0_:=aM_ (J155.ge HI0.out);exact bZ_ HB);(case side3=>repeat (first | exact (Kd.R_reads' HO618.out).2.2 | (with_reducible refine cA_ ?_ _) | (with_reducible refine cN_ ?_ _) | (with_reducible refine cD_ ?_)));(case side4=>exact (Kd.R_reads' HO618.out).2.1);(case side5=>exact far_slice (J155.own_ne HI0.out HO618.out (by decide)));rintro e w36 ⟨rfl,hi,hb,hk⟩;refine ⟨_,rfl,?_⟩;have n0_:=aM_ (KeepBut.blk hk (g':=gb602) (o:=.cells #[.int .i64 0,.int .i64 0,.string (⟨#[]⟩ : ByteArray)] 116 (0,0)) (by exact kZ_ BK602) NB602_0.out (by simp));have n1_:=aM_ (KeepBut.blk hk (g':=gb606) (o:=.cells #[.int .i64 a1,.int .i64 0,.string (⟨#[]⟩ : ByteArray)] 116 (0,0)) (by exact kZ_ BK606) NB606_0.out (by simp));have n2_:=aM_ (Kd.R_mono (Kd.R_keep (J155.apart (show J155 w0 _ g s0_0 t614 t615 from by repeat first | exact J155.z HI0 | apply J155.set_1 | apply J155.set_2 | refine J155.y ?_) (by exact rZ_ HO618) (by decide)) hk (fun _ h=>h.2)) (fun _ h=>h.1));have n3_:=aM_ (KeepBut.trans (by exact eZ_ HK) hk (.inl rfl));have n4_:=aM_ (hb);have n5_:=aM_ (hi);clear BK602;clear BK606;clear HO618;clear HK;clear HB;clear HI0;have BK602:=n0_;have BK606:=n1_;have HO618:=n2_;have HK:=n3_;have HB:=n4_;have HI0:=n5_;clear n0_ n1_ n2_ n3_ n4_ n5_;(try clear hb);(try clear hb2);(try clear hk);(try clear hi);have hcz37_0 : w36.cell? ⟨gb606,0,none⟩ = some (.int .i64 a1):=(kC_ BK606.out 0).trans rfl;have hcz37_1 : w36.cell? ⟨gb606,1,none⟩ = some (.int .i64 0):=(kC_ BK606.out 1).trans rfl;have hcz37_2 : w36.cell? ⟨gb606,2,none⟩ = some (.string (⟨#[]⟩ : ByteArray)):=(kC_ BK606.out 2).trans rfl;have hfz37_0:=kF_ BK606.out 0;have hfz37_1:=kF_ BK606.out 1;have hfz37_2:=kF_ BK606.out 2;have hnb38:=NB602_0.out;have hnc38:=NB0_602.out;have hcz39_0 : w36.cell? ⟨gb602,0,none⟩ = some (.int .i64 0):=(kC_ BK602.out 0).trans rfl;have hcz39_1 : w36.cell? ⟨gb602,1,none⟩ = some (.int .i64 0):=(kC_ BK602.out 1).trans rfl;have hcz39_2 : w36.cell? ⟨gb602,2,none⟩ = some (.string (⟨#[]⟩ : ByteArray)):=(kC_ BK602.out 2).trans rfl;have hfz39_0:=kF_ BK602.out 0;have hfz39_1:=kF_ BK602.out 1;have hfz39_2:=kF_ BK602.out 2))
      refine bodyPost_ret (results_cell_row rfl _ _ gb602 116 #[.int .i64 a1,.int .i64 t619,.string (⟨#[]⟩ : ByteArray)] (0,0) _ rfl (by (with_reducible repeat (first | refine kN_ ?_ _ | refine kD_ ?_ | refine kA_ ?_ _));refine kP_ (cs:=#[.int .i64 a1,.int .i64 t619,.string (⟨#[]⟩ : ByteArray)]) ?_ 2 _ rfl;(with_reducible repeat (first | refine kN_ ?_ _ | refine kD_ ?_ | refine kA_ ?_ _));refine kP_ (cs:=#[.int .i64 a1,.int .i64 0,.string (⟨#[]⟩ : ByteArray)]) ?_ 1 _ rfl;(with_reducible repeat (first | refine kN_ ?_ _ | refine kD_ ?_ | refine kA_ ?_ _));refine kP_ (cs:=#[.int .i64 0,.int .i64 0,.string (⟨#[]⟩ : ByteArray)]) ?_ 0 _ rfl;exact kW_ BK602) Try.underlying116 rfl (by kernel_rfl)) rfl ?_
      exact ⟨by first | rfl | (simp [errW_none,errW_some] <;> rfl) | (simp [*, errW_none,errW_some] <;> rfl),by repeat first | exact J155.z HI0 | apply J155.set_1 | apply J155.set_2 | refine J155.y ?_,by have e0_:=aM_ (J155.ge HI0.out);exact bZ_ HB,by exact eZ_ HK⟩
     ·rw [if_neg c25] at H
      have c25b0 : (a1 == 2) = false:=beq_eq_false_iff_ne.mpr c25
      have c25b1 : (a1 != 2) = true:=bne_iff_ne.mpr c25
      by_cases c40 : a1 = 3
      ·rw [if_pos c40] at H
       have c40b0 : (a1 == 3) = true:=beq_iff_eq.mpr c40
       have c40b1 : (a1 != 3) = false:=bne_eq_false_iff_eq.mpr c40
       clear c40
       replace H:=oB_ H
       obtain ⟨⟨t622,t623,t624⟩,A410,H⟩:=H
       replace H : (some (a1,0,t622,t623,t624)) = some (r1,r2,r3,r4,r5):=H
       have A41:=aM_ A410
       clear A410
       simp only [Option.some.injEq,Prod.mk.injEq] at H
       obtain ⟨rfl,rfl,rfl,rfl,rfl⟩:=H
       go_wp2_with (first | ((with_reducible refine gate_dst (N:=7) rfl ?_);refine box_event ?hg (N:=7) ?hd (cs:=#[.int .i64 0,.int .i64 0,.string (⟨#[]⟩ : ByteArray)]) (t:=116) ?hr ?_;(case hd=>rfl);(case hg=>rfl);(case hr=>first | (go_simp;done) | (go_simp;rfl));intro gb606 hg w42 hbox hb;have n0_:=aM_ (blk_below (g:=gb602) (o:=.cells #[.int .i64 0,.int .i64 0,.string (⟨#[]⟩ : ByteArray)] 116 (0,0)) (by exact kZ_ BK602) hb);have n1_:=aM_ (J155.below (by repeat first | exact J155.z HI0 | apply J155.set_1 | apply J155.set_2 | refine J155.y ?_) hb);have n2_:=aM_ (KeepBut.trans (by exact eZ_ HK) (KeepBut.of_below hb g none) (.inl rfl));have n3_:=aM_ (bT_ (by have e0_:=aM_ (J155.ge HI0.out);exact bZ_ HB) hb);have n4_:=aM_ (hbox);have n5_:=aM_ ((by rw [hg];exact (keep_size (w:=w) (g:=g) (row:=none) (by exact eZ_ HK)) : w.heap.size ≤ gb606));have n6_:=aM_ ((Nat.le_trans HW0.out (by rw [hg];exact (keep_size (w:=w) (g:=g) (row:=none) (by exact eZ_ HK)) : w.heap.size ≤ gb606) : w0.heap.size ≤ gb606));have n7_:=aM_ ((by rw [hg];exact nN_ (blk_lt (g:=gb602) (o:=.cells #[.int .i64 0,.int .i64 0,.string (⟨#[]⟩ : ByteArray)] 116 (0,0)) (by exact kZ_ BK602)) : gb602 ≠ gb606));have n8_:=aM_ ((by rw [hg];exact Nat.ne_of_gt (blk_lt (g:=gb602) (o:=.cells #[.int .i64 0,.int .i64 0,.string (⟨#[]⟩ : ByteArray)] 116 (0,0)) (by exact kZ_ BK602)) : gb606 ≠ gb602));have n9_:=aM_ ((by rw [hg];exact nN_ (J155.lt (show J155 w0 _ g s0_0 x1001_3 x1002_3 from by repeat first | exact J155.z HI0 | apply J155.set_1 | apply J155.set_2 | refine J155.y ?_)) : g ≠ gb606));have n10_:=aM_ ((by rw [hg];exact Nat.ne_of_gt (J155.lt (show J155 w0 _ g s0_0 x1001_3 x1002_3 from by repeat first | exact J155.z HI0 | apply J155.set_1 | apply J155.set_2 | refine J155.y ?_)) : gb606 ≠ g));clear BK602;clear HI0;clear HK;clear HB;have BK602:=n0_;have HI0:=n1_;have HK:=n2_;have HB:=n3_;have BK606:=n4_;have GW606:=n5_;have GE606:=n6_;have NB602_606:=n7_;have NB606_602:=n8_;have NB0_606:=n9_;have NB606_0:=n10_;clear n0_ n1_ n2_ n3_ n4_ n5_ n6_ n7_ n8_ n9_ n10_;clear hb hbox hg;have hnb43:=NB606_602.out;have hnc43:=NB602_606.out;have hnb44:=NB606_0.out;have hnc44:=NB0_606.out;have hcz45_0 : w42.cell? ⟨gb606,0,none⟩ = some (.int .i64 0):=(kC_ BK606.out 0).trans rfl;have hcz45_1 : w42.cell? ⟨gb606,1,none⟩ = some (.int .i64 0):=(kC_ BK606.out 1).trans rfl;have hcz45_2 : w42.cell? ⟨gb606,2,none⟩ = some (.string (⟨#[]⟩ : ByteArray)):=(kC_ BK606.out 2).trans rfl;have hfz45_0:=kF_ BK606.out 0;have hfz45_1:=kF_ BK606.out 1;have hfz45_2:=kF_ BK606.out 2) | ((with_reducible refine gate_callee (f:=187) rfl ?_);refine goesL_ (some 38) rfl rfl Try.func187 (by kernel_rfl) rfl #[.pointer (some ⟨g,0,none⟩)] rfl (by (try simp only [mA_,mC_,mN_]);first | done | rfl | (simp only [lD_,lT_];rfl)) ?_;(with_reducible refine (spec_l2Text.calls g s0_0 x1001_3 x1002_3 t622 t623 t624 w0 _ ?side1 ?side2 A41.out).mono ?_);(case side1=>repeat first | exact J155.z HI0 | apply J155.set_1 | apply J155.set_2 | refine J155.y ?_);(case side2=>have e0_:=aM_ (J155.ge HI0.out);exact bZ_ HB);rintro e w46 ⟨rfl,hi,hb,hk⟩;refine ⟨_,rfl,?_⟩;have n0_:=aM_ (KeepBut.blk hk (g':=gb602) (o:=.cells #[.int .i64 0,.int .i64 0,.string (⟨#[]⟩ : ByteArray)] 116 (0,0)) (by exact kW_ BK602) NB602_0.out (by simp));have n1_:=aM_ (KeepBut.blk hk (g':=gb606) (o:=.cells #[.int .i64 a1,.int .i64 0,.string (⟨#[]⟩ : ByteArray)] 116 (0,0)) (by (with_reducible repeat (first | refine kN_ ?_ _ | refine kD_ ?_ | refine kA_ ?_ _));refine kP_ (cs:=#[.int .i64 a1,.int .i64 0,.string (⟨#[]⟩ : ByteArray)]) ?_ 2 _ rfl;(with_reducible repeat (first | refine kN_ ?_ _ | refine kD_ ?_ | refine kA_ ?_ _));refine kP_ (cs:=#[.int .i64 a1,.int .i64 0,.string (⟨#[]⟩ : ByteArray)]) ?_ 1 _ rfl;(with_reducible repeat (first | refine kN_ ?_ _ | refine kD_ ?_ | refine kA_ ?_ _));refine kP_ (cs:=#[.int .i64 0,.int .i64 0,.string (⟨#[]⟩ : ByteArray)]) ?_ 0 _ rfl;exact kZ_ BK606) NB606_0.out (by simp));have n2_:=aM_ (KeepBut.trans (by exact eZ_ HK) hk (.inl rfl));have n3_:=aM_ (hb);have n4_:=aM_ (hi);clear BK602;clear BK606;clear HK;clear HB;clear HI0;have BK602:=n0_;have BK606:=n1_;have HK:=n2_;have HB:=n3_;have HI0:=n4_;clear n0_ n1_ n2_ n3_ n4_;(try clear hb);(try clear hb2);(try clear hk);(try clear hi);have hcz47_0 : w46.cell? ⟨gb606,0,none⟩ = some (.int .i64 a1):=(kC_ BK606.out 0).trans rfl;have hcz47_1 : w46.cell? ⟨gb606,1,none⟩ = some (.int .i64 0):=(kC_ BK606.out 1).trans rfl;have hcz47_2 : w46.cell? ⟨gb606,2,none⟩ = some (.string (⟨#[]⟩ : ByteArray)):=(kC_ BK606.out 2).trans rfl;have hfz47_0:=kF_ BK606.out 0;have hfz47_1:=kF_ BK606.out 1;have hfz47_2:=kF_ BK606.out 2;have hnb48:=NB602_0.out;have hnc48:=NB0_602.out;have hcz49_0 : w46.cell? ⟨gb602,0,none⟩ = some (.int .i64 0):=(kC_ BK602.out 0).trans rfl;have hcz49_1 : w46.cell? ⟨gb602,1,none⟩ = some (.int .i64 0):=(kC_ BK602.out 1).trans rfl;have hcz49_2 : w46.cell? ⟨gb602,2,none⟩ = some (.string (⟨#[]⟩ : ByteArray)):=(kC_ BK602.out 2).trans rfl;have hfz49_0:=kF_ BK602.out 0;have hfz49_1:=kF_ BK602.out 1;have hfz49_2:=kF_ BK602.out 2))
       refine bodyPost_ret (results_cell_row rfl _ _ gb602 116 #[.int .i64 a1,.int .i64 0,.string t622] (0,0) _ rfl (by (with_reducible repeat (first | refine kN_ ?_ _ | refine kD_ ?_ | refine kA_ ?_ _));refine kP_ (cs:=#[.int .i64 a1,.int .i64 0,.string (⟨#[]⟩ : ByteArray)]) ?_ 2 _ rfl;(with_reducible repeat (first | refine kN_ ?_ _ | refine kD_ ?_ | refine kA_ ?_ _));refine kP_ (cs:=#[.int .i64 a1,.int .i64 0,.string (⟨#[]⟩ : ByteArray)]) ?_ 1 _ rfl;(with_reducible repeat (first | refine kN_ ?_ _ | refine kD_ ?_ | refine kA_ ?_ _));refine kP_ (cs:=#[.int .i64 0,.int .i64 0,.string (⟨#[]⟩ : ByteArray)]) ?_ 0 _ rfl;exact kW_ BK602) Try.underlying116 rfl (by kernel_rfl)) rfl ?_
       exact ⟨by first | rfl | (simp [errW_none,errW_some] <;> rfl) | (simp [*, errW_none,errW_some] <;> rfl),by repeat first | exact J155.z HI0 | apply J155.set_1 | apply J155.set_2 | refine J155.y ?_,by have e0_:=aM_ (J155.ge HI0.out);exact bZ_ HB,by exact eZ_ HK⟩
      ·rw [if_neg c40] at H
       have c40b0 : (a1 == 3) = false:=beq_eq_false_iff_ne.mpr c40
       have c40b1 : (a1 != 3) = true:=bne_iff_ne.mpr c40
       replace H:=oB_ H
       obtain ⟨⟨t625,t626,t627⟩,A500,H⟩:=H
       replace H : (some (a1,t625,(⟨#[]⟩ : ByteArray),t626,t627)) = some (r1,r2,r3,r4,r5):=H
       have A50:=aM_ A500
       clear A500
       simp only [Option.some.injEq,Prod.mk.injEq] at H
       obtain ⟨rfl,rfl,rfl,rfl,rfl⟩:=H
       go_wp2_with (first | ((with_reducible refine gate_dst (N:=7) rfl ?_);refine box_event ?hg (N:=7) ?hd (cs:=#[.int .i64 0,.int .i64 0,.string (⟨#[]⟩ : ByteArray)]) (t:=116) ?hr ?_;(case hd=>rfl);(case hg=>rfl);(case hr=>first | (go_simp;done) | (go_simp;rfl));intro gb606 hg w51 hbox hb;have n0_:=aM_ (blk_below (g:=gb602) (o:=.cells #[.int .i64 0,.int .i64 0,.string (⟨#[]⟩ : ByteArray)] 116 (0,0)) (by exact kZ_ BK602) hb);have n1_:=aM_ (J155.below (by repeat first | exact J155.z HI0 | apply J155.set_1 | apply J155.set_2 | refine J155.y ?_) hb);have n2_:=aM_ (KeepBut.trans (by exact eZ_ HK) (KeepBut.of_below hb g none) (.inl rfl));have n3_:=aM_ (bT_ (by have e0_:=aM_ (J155.ge HI0.out);exact bZ_ HB) hb);have n4_:=aM_ (hbox);have n5_:=aM_ ((by rw [hg];exact (keep_size (w:=w) (g:=g) (row:=none) (by exact eZ_ HK)) : w.heap.size ≤ gb606));have n6_:=aM_ ((Nat.le_trans HW0.out (by rw [hg];exact (keep_size (w:=w) (g:=g) (row:=none) (by exact eZ_ HK)) : w.heap.size ≤ gb606) : w0.heap.size ≤ gb606));have n7_:=aM_ ((by rw [hg];exact nN_ (blk_lt (g:=gb602) (o:=.cells #[.int .i64 0,.int .i64 0,.string (⟨#[]⟩ : ByteArray)] 116 (0,0)) (by exact kZ_ BK602)) : gb602 ≠ gb606));have n8_:=aM_ ((by rw [hg];exact Nat.ne_of_gt (blk_lt (g:=gb602) (o:=.cells #[.int .i64 0,.int .i64 0,.string (⟨#[]⟩ : ByteArray)] 116 (0,0)) (by exact kZ_ BK602)) : gb606 ≠ gb602));have n9_:=aM_ ((by rw [hg];exact nN_ (J155.lt (show J155 w0 _ g s0_0 x1001_3 x1002_3 from by repeat first | exact J155.z HI0 | apply J155.set_1 | apply J155.set_2 | refine J155.y ?_)) : g ≠ gb606));have n10_:=aM_ ((by rw [hg];exact Nat.ne_of_gt (J155.lt (show J155 w0 _ g s0_0 x1001_3 x1002_3 from by repeat first | exact J155.z HI0 | apply J155.set_1 | apply J155.set_2 | refine J155.y ?_)) : gb606 ≠ g));clear BK602;clear HI0;clear HK;clear HB;have BK602:=n0_;have HI0:=n1_;have HK:=n2_;have HB:=n3_;have BK606:=n4_;have GW606:=n5_;have GE606:=n6_;have NB602_606:=n7_;have NB606_602:=n8_;have NB0_606:=n9_;have NB606_0:=n10_;clear n0_ n1_ n2_ n3_ n4_ n5_ n6_ n7_ n8_ n9_ n10_;clear hb hbox hg;have hnb52:=NB606_602.out;have hnc52:=NB602_606.out;have hnb53:=NB606_0.out;have hnc53:=NB0_606.out;have hcz54_0 : w51.cell? ⟨gb606,0,none⟩ = some (.int .i64 0):=(kC_ BK606.out 0).trans rfl;have hcz54_1 : w51.cell? ⟨gb606,1,none⟩ = some (.int .i64 0):=(kC_ BK606.out 1).trans rfl;have hcz54_2 : w51.cell? ⟨gb606,2,none⟩ = some (.string (⟨#[]⟩ : ByteArray)):=(kC_ BK606.out 2).trans rfl;have hfz54_0:=kF_ BK606.out 0;have hfz54_1:=kF_ BK606.out 1;have hfz54_2:=kF_ BK606.out 2) | ((with_reducible refine gate_callee (f:=125) rfl ?_);refine goesL_ (some 18) rfl rfl Try.func125 (by kernel_rfl) rfl #[.pointer (some ⟨g,0,none⟩),.int .i64 2] rfl (by (try simp only [mA_,mC_,mN_]);first | done | rfl | (simp only [lD_,lT_];rfl)) ?_;(with_reducible refine (spec_l1Below.calls g s0_0 x1001_3 x1002_3 2 t625 t626 t627 w0 _ ?side1 ?side2 A50.out).mono ?_);(case side1=>repeat first | exact J155.z HI0 | apply J155.set_1 | apply J155.set_2 | refine J155.y ?_);(case side2=>have e0_:=aM_ (J155.ge HI0.out);exact bZ_ HB);rintro e w55 ⟨rfl,hi,hb,hk⟩;refine ⟨_,rfl,?_⟩;have n0_:=aM_ (KeepBut.blk hk (g':=gb602) (o:=.cells #[.int .i64 0,.int .i64 0,.string (⟨#[]⟩ : ByteArray)] 116 (0,0)) (by exact kW_ BK602) NB602_0.out (by simp));have n1_:=aM_ (KeepBut.blk hk (g':=gb606) (o:=.cells #[.int .i64 a1,.int .i64 0,.string (⟨#[]⟩ : ByteArray)] 116 (0,0)) (by (with_reducible repeat (first | refine kN_ ?_ _ | refine kD_ ?_ | refine kA_ ?_ _));refine kP_ (cs:=#[.int .i64 a1,.int .i64 0,.string (⟨#[]⟩ : ByteArray)]) ?_ 2 _ rfl;(with_reducible repeat (first | refine kN_ ?_ _ | refine kD_ ?_ | refine kA_ ?_ _));refine kP_ (cs:=#[.int .i64 a1,.int .i64 0,.string (⟨#[]⟩ : ByteArray)]) ?_ 1 _ rfl;(with_reducible repeat (first | refine kN_ ?_ _ | refine kD_ ?_ | refine kA_ ?_ _));refine kP_ (cs:=#[.int .i64 0,.int .i64 0,.string (⟨#[]⟩ : ByteArray)]) ?_ 0 _ rfl;exact kZ_ BK606) NB606_0.out (by simp));have n2_:=aM_ (KeepBut.trans (by exact eZ_ HK) hk (.inl rfl));have n3_:=aM_ (hb);have n4_:=aM_ (hi);clear BK602;clear BK606;clear HK;clear HB;clear HI0;have BK602:=n0_;have BK606:=n1_;have HK:=n2_;have HB:=n3_;have HI0:=n4_;clear n0_ n1_ n2_ n3_ n4_;(try clear hb);(try clear hb2);(try clear hk);(try clear hi);have hcz56_0 : w55.cell? ⟨gb606,0,none⟩ = some (.int .i64 a1):=(kC_ BK606.out 0).trans rfl;have hcz56_1 : w55.cell? ⟨gb606,1,none⟩ = some (.int .i64 0):=(kC_ BK606.out 1).trans rfl;have hcz56_2 : w55.cell? ⟨gb606,2,none⟩ = some (.string (⟨#[]⟩ : ByteArray)):=(kC_ BK606.out 2).trans rfl;have hfz56_0:=kF_ BK606.out 0;have hfz56_1:=kF_ BK606.out 1;have hfz56_2:=kF_ BK606.out 2;have hnb57:=NB602_0.out;have hnc57:=NB0_602.out;have hcz58_0 : w55.cell? ⟨gb602,0,none⟩ = some (.int .i64 0):=(kC_ BK602.out 0).trans rfl;have hcz58_1 : w55.cell? ⟨gb602,1,none⟩ = some (.int .i64 0):=(kC_ BK602.out 1).trans rfl;have hcz58_2 : w55.cell? ⟨gb602,2,none⟩ = some (.string (⟨#[]⟩ : ByteArray)):=(kC_ BK602.out 2).trans rfl;have hfz58_0:=kF_ BK602.out 0;have hfz58_1:=kF_ BK602.out 1;have hfz58_2:=kF_ BK602.out 2))
       refine bodyPost_ret (results_cell_row rfl _ _ gb602 116 #[.int .i64 a1,.int .i64 t625,.string (⟨#[]⟩ : ByteArray)] (0,0) _ rfl (by (with_reducible repeat (first | refine kN_ ?_ _ | refine kD_ ?_ | refine kA_ ?_ _));refine kP_ (cs:=#[.int .i64 a1,.int .i64 t625,.string (⟨#[]⟩ : ByteArray)]) ?_ 2 _ rfl;(with_reducible repeat (first | refine kN_ ?_ _ | refine kD_ ?_ | refine kA_ ?_ _));refine kP_ (cs:=#[.int .i64 a1,.int .i64 0,.string (⟨#[]⟩ : ByteArray)]) ?_ 1 _ rfl;(with_reducible repeat (first | refine kN_ ?_ _ | refine kD_ ?_ | refine kA_ ?_ _));refine kP_ (cs:=#[.int .i64 0,.int .i64 0,.string (⟨#[]⟩ : ByteArray)]) ?_ 0 _ rfl;exact kW_ BK602) Try.underlying116 rfl (by kernel_rfl)) rfl ?_
       exact ⟨by first | rfl | (simp [errW_none,errW_some] <;> rfl) | (simp [*, errW_none,errW_some] <;> rfl),by repeat first | exact J155.z HI0 | apply J155.set_1 | apply J155.set_2 | refine J155.y ?_,by have e0_:=aM_ (J155.ge HI0.out);exact bZ_ HB,by exact eZ_ HK⟩
def spec_l2Draw.f (k : Nat) (s0_0 : List Int) (s0_1 : Int) (s0_2 : Int) : Option (Int × Int × ByteArray × Int × Int):=(spec_l1Below.f s0_0 s0_1 s0_2 4).bind fun bt629=>((spec_l2Of.f k s0_0 bt629.2.1 bt629.2.2 (wrap64 (1 + bt629.1)) true).bind fun bt632=>(some (bt632.1,bt632.2.1,bt632.2.2.1,bt632.2.2.2.1,bt632.2.2.2.2)))
theorem spec_l2Draw.mono : ∀ a0 a1 a2 k,LeO (spec_l2Draw.f k a0 a1 a2) (spec_l2Draw.f (k + 1) a0 a1 a2):=by
 intro a0 a1 a2 k
 unfold spec_l2Draw.f
 repeat' first
   | (with_reducible exact spec_l2Of.mono _ _ _ _ _ _)
   | (with_reducible exact LeO.refl _)
   | (with_reducible exact LeO.none _)
   | (with_reducible refine LeO.ite ?_ ?_)
   | (with_reducible refine LeO.bind ?_ (fun _=>?_))
   | exact spec_l2Of.mono _ _ _ _ _ _
   | exact LeO.none _
   | refine LeO.ite ?_ ?_
   | refine LeO.bind ?_ (fun _=>?_)
set_option maxHeartbeats 8000000 in
set_option maxRecDepth 100000 in
theorem spec_l2Draw.calls (k : Nat) (g : Nat) (s0_0 : List Int) (s0_1 : Int) (s0_2 : Int) (r1 : Int) (r2 : Int) (r3 : ByteArray) (r4 : Int) (r5 : Int) (w0 w : World) (hI : J155 w0 w g s0_0 s0_1 s0_2) (hB : Below w0.heap.size w0 w) (h : spec_l2Draw.f k s0_0 s0_1 s0_2 = some (r1,r2,r3,r4,r5)) :
  Calls Try.prog 157 #[.pointer (some ⟨g,0,none⟩)] w fun e w'=>e = .returned (.agg #[.int .i64 r1,.int .i64 r2,.string r3]) ∧ J155 w0 w' g s0_0 r4 r5 ∧ Below w0.heap.size w0 w' ∧ KeepBut w w' g none:=by
 have hu116:=Try.underlying116
 have HI0:=aM_ hI
 have HK:=aM_ (KeepBut.refl w g none)
 have HL:=aM_ hB.size
 clear hI
 have HW0:=aM_ hB.size
 have HB:=aM_ hB
 clear hB
 have H : ((spec_l1Below.f s0_0 s0_1 s0_2 4).bind fun bt629=>((spec_l2Of.f k s0_0 bt629.2.1 bt629.2.2 (wrap64 (1 + bt629.1)) true).bind fun bt632=>(some (bt632.1,bt632.2.1,bt632.2.2.1,bt632.2.2.2.1,bt632.2.2.2.2)))) = some (r1,r2,r3,r4,r5):=h
 clear h
 replace H:=oB_ H
 obtain ⟨⟨t629,t630,t631⟩,A20,H⟩:=H
 replace H : ((spec_l2Of.f k s0_0 t630 t631 (wrap64 (1 + t629)) true).bind fun bt632=>(some (bt632.1,bt632.2.1,bt632.2.2.1,bt632.2.2.2.1,bt632.2.2.2.2))) = some (r1,r2,r3,r4,r5):=H
 have A2:=aM_ A20
 clear A20
 replace H:=oB_ H
 obtain ⟨⟨t632,t633,t634,t635,t636⟩,A30,H⟩:=H
 replace H : (some (t632,t633,t634,t635,t636)) = some (r1,r2,r3,r4,r5):=H
 have A3:=aM_ A30
 clear A30
 simp only [Option.some.injEq,Prod.mk.injEq] at H
 obtain ⟨rfl,rfl,rfl,rfl,rfl⟩:=H
 go_enter Try.func157,Try.ntmps157
 go_wp2_with (first | ((with_reducible refine gate_dst (N:=2) rfl ?_);refine box_event ?hg (N:=2) ?hd (cs:=#[.int .i64 0,.int .i64 0,.string (⟨#[]⟩ : ByteArray)]) (t:=116) ?hr ?_;(case hd=>rfl);(case hg=>rfl);(case hr=>first | (go_simp;done) | (go_simp;rfl));intro gb628 hg w4 hbox hb;have n0_:=aM_ (J155.below (by repeat first | exact J155.z HI0 | apply J155.set_1 | apply J155.set_2 | refine J155.y ?_) hb);have n1_:=aM_ (KeepBut.trans (by exact eZ_ HK) (KeepBut.of_below hb g none) (.inl rfl));have n2_:=aM_ (bT_ (by have e0_:=aM_ (J155.ge HI0.out);exact bZ_ HB) hb);have n3_:=aM_ (hbox);have n4_:=aM_ ((by rw [hg];exact (keep_size (w:=w) (g:=g) (row:=none) (by exact eZ_ HK)) : w.heap.size ≤ gb628));have n5_:=aM_ ((Nat.le_trans HW0.out (by rw [hg];exact (keep_size (w:=w) (g:=g) (row:=none) (by exact eZ_ HK)) : w.heap.size ≤ gb628) : w0.heap.size ≤ gb628));have n6_:=aM_ ((by rw [hg];exact nN_ (J155.lt (show J155 w0 _ g s0_0 s0_1 s0_2 from by repeat first | exact J155.z HI0 | apply J155.set_1 | apply J155.set_2 | refine J155.y ?_)) : g ≠ gb628));have n7_:=aM_ ((by rw [hg];exact Nat.ne_of_gt (J155.lt (show J155 w0 _ g s0_0 s0_1 s0_2 from by repeat first | exact J155.z HI0 | apply J155.set_1 | apply J155.set_2 | refine J155.y ?_)) : gb628 ≠ g));clear HI0;clear HK;clear HB;have HI0:=n0_;have HK:=n1_;have HB:=n2_;have BK628:=n3_;have GW628:=n4_;have GE628:=n5_;have NB0_628:=n6_;have NB628_0:=n7_;clear n0_ n1_ n2_ n3_ n4_ n5_ n6_ n7_;clear hb hbox hg) | ((with_reducible refine gate_callee (f:=125) rfl ?_);refine goesL_ (some 5) rfl rfl Try.func125 (by kernel_rfl) rfl #[.pointer (some ⟨g,0,none⟩),.int .i64 4] rfl (by (try simp only [mA_,mC_,mN_]);first | done | rfl | (simp only [lD_,lT_];rfl)) ?_;(with_reducible refine (spec_l1Below.calls g s0_0 s0_1 s0_2 4 t629 t630 t631 w0 _ ?side1 ?side2 A2.out).mono ?_);(case side1=>repeat first | exact J155.z HI0 | apply J155.set_1 | apply J155.set_2 | refine J155.y ?_);(case side2=>have e0_:=aM_ (J155.ge HI0.out);exact bZ_ HB);rintro e w5 ⟨rfl,hi,hb,hk⟩;refine ⟨_,rfl,?_⟩;have n0_:=aM_ (KeepBut.blk hk (g':=gb628) (o:=.cells #[.int .i64 0,.int .i64 0,.string (⟨#[]⟩ : ByteArray)] 116 (0,0)) (by exact kZ_ BK628) NB628_0.out (by simp));have n1_:=aM_ (KeepBut.trans (by exact eZ_ HK) hk (.inl rfl));have n2_:=aM_ (hb);have n3_:=aM_ (hi);clear BK628;clear HK;clear HB;clear HI0;have BK628:=n0_;have HK:=n1_;have HB:=n2_;have HI0:=n3_;clear n0_ n1_ n2_ n3_;(try clear hb);(try clear hb2);(try clear hk);(try clear hi)) | ((with_reducible refine gate_callee (f:=180) rfl ?_);refine goesL_ (some 7) rfl rfl Try.func180 (by kernel_rfl) rfl #[.pointer (some ⟨g,0,none⟩),.int .i64 (wrap64 (1 + t629)),.bool true] rfl (by (try simp only [mA_,mC_,mN_]);first | done | rfl | (simp only [lD_,lT_];rfl)) ?_;(with_reducible refine (spec_l2Of.calls k g s0_0 t630 t631 (wrap64 (1 + t629)) true t632 t633 t634 t635 t636 w0 _ ?side1 ?side2 A3.out).mono ?_);(case side1=>repeat first | exact J155.z HI0 | apply J155.set_1 | apply J155.set_2 | refine J155.y ?_);(case side2=>have e0_:=aM_ (J155.ge HI0.out);exact bZ_ HB);rintro e w6 ⟨rfl,hi,hb,hk⟩;refine ⟨_,rfl,?_⟩;have n0_:=aM_ (KeepBut.blk hk (g':=gb628) (o:=.cells #[.int .i64 0,.int .i64 0,.string (⟨#[]⟩ : ByteArray)] 116 (0,0)) (by exact kZ_ BK628) NB628_0.out (by simp));have n1_:=aM_ (KeepBut.trans (by exact eZ_ HK) hk (.inl rfl));have n2_:=aM_ (hb);have n3_:=aM_ (hi);clear BK628;clear HK;clear HB;clear HI0;have BK628:=n0_;have HK:=n1_;have HB:=n2_;have HI0:=n3_;clear n0_ n1_ n2_ n3_;(try clear hb);(try clear hb2);(try clear hk);(try clear hi);have hnb7:=NB628_0.out;have hnc7:=NB0_628.out;have hcz8_0 : w6.cell? ⟨gb628,0,none⟩ = some (.int .i64 0):=(kC_ BK628.out 0).trans rfl;have hcz8_1 : w6.cell? ⟨gb628,1,none⟩ = some (.int .i64 0):=(kC_ BK628.out 1).trans rfl;have hcz8_2 : w6.cell? ⟨gb628,2,none⟩ = some (.string (⟨#[]⟩ : ByteArray)):=(kC_ BK628.out 2).trans rfl;have hfz8_0:=kF_ BK628.out 0;have hfz8_1:=kF_ BK628.out 1;have hfz8_2:=kF_ BK628.out 2))
 refine bodyPost_ret (results_cell_row rfl _ _ gb628 116 #[.int .i64 t632,.int .i64 t633,.string t634] (0,0) _ rfl (by (with_reducible repeat (first | refine kN_ ?_ _ | refine kD_ ?_ | refine kA_ ?_ _));refine kP_ (cs:=#[.int .i64 t632,.int .i64 t633,.string (⟨#[]⟩ : ByteArray)]) ?_ 2 _ rfl;(with_reducible repeat (first | refine kN_ ?_ _ | refine kD_ ?_ | refine kA_ ?_ _));refine kP_ (cs:=#[.int .i64 t632,.int .i64 0,.string (⟨#[]⟩ : ByteArray)]) ?_ 1 _ rfl;(with_reducible repeat (first | refine kN_ ?_ _ | refine kD_ ?_ | refine kA_ ?_ _));refine kP_ (cs:=#[.int .i64 0,.int .i64 0,.string (⟨#[]⟩ : ByteArray)]) ?_ 0 _ rfl;exact kZ_ BK628) Try.underlying116 rfl (by kernel_rfl)) rfl ?_
 exact ⟨by first | rfl | (simp [errW_none,errW_some] <;> rfl) | (simp [*, errW_none,errW_some] <;> rfl),by repeat first | exact J155.z HI0 | apply J155.set_1 | apply J155.set_2 | refine J155.y ?_,by have e0_:=aM_ (J155.ge HI0.out);exact bZ_ HB,by exact eZ_ HK⟩
def spec_l6Vals.l0 : Nat → List (S119) → Int → List (S116) → Int → List Int → Int → Int → Option ((List (S116)) × Int × Int)
 | 0,_,_,_,_,_,_,_=>none
 | k + 1,x1,x2,x7,x8,x1000,x1001,x1002=>if x8 < x2 then (if x8 < (x1.length : Int) then (if 0 ≤ x8 then ((spec_l2Of.f k x1000 x1001 x1002 ((rd_T119 x1 x8).f1) ((rd_T119 x1 x8).f2)).bind fun bt642=>(if x7.length < 4398046511104 then (spec_l6Vals.l0 k x1 x2 (x7 ++ [(⟨bt642.1,bt642.2.1,bt642.2.2.1⟩ : S116)]) (wrap64 (x8 + 1)) x1000 bt642.2.2.2.1 bt642.2.2.2.2) else (none))) else (none)) else (some (x7,x1001,x1002))) else (some (x7,x1001,x1002))
def spec_l6Vals.f (k : Nat) (s0_0 : List Int) (s0_1 : Int) (s0_2 : Int) (l1 : List (S119)) (a2 : Int) : Option ((List (S116)) × Int × Int):=spec_l6Vals.l0 k l1 a2 (([] : List (S116))) 0 s0_0 s0_1 s0_2
theorem spec_l6Vals.mono_l : ∀ k,(∀ y0 y1 y2 y3 y4 y5 y6,LeO (spec_l6Vals.l0 k y0 y1 y2 y3 y4 y5 y6) (spec_l6Vals.l0 (k + 1) y0 y1 y2 y3 y4 y5 y6))
 | 0=>fun _ _ _ _ _ _ _ r h=>by simp [spec_l6Vals.l0] at h
 | k + 1=>by
  have ih0:=spec_l6Vals.mono_l k
  ·intro y0 y1 y2 y3 y4 y5 y6
   unfold spec_l6Vals.l0
   repeat' first
   | (with_reducible exact ih0 _ _ _ _ _ _ _)
   | (with_reducible exact spec_l2Of.mono _ _ _ _ _ _)
   | (with_reducible exact LeO.refl _)
   | (with_reducible exact LeO.none _)
   | (with_reducible refine LeO.ite ?_ ?_)
   | (with_reducible refine LeO.bind ?_ (fun _=>?_))
   | exact ih0 _ _ _ _ _ _ _
   | exact spec_l2Of.mono _ _ _ _ _ _
   | exact LeO.none _
   | refine LeO.ite ?_ ?_
   | refine LeO.bind ?_ (fun _=>?_)
theorem spec_l6Vals.mono : ∀ a0 a1 a2 a3 a4 k,LeO (spec_l6Vals.f k a0 a1 a2 a3 a4) (spec_l6Vals.f (k + 1) a0 a1 a2 a3 a4):=by
 intro a0 a1 a2 a3 a4 k
 have ih0:=spec_l6Vals.mono_l k
 unfold spec_l6Vals.f
 repeat' first
   | (with_reducible exact ih0 _ _ _ _ _ _ _)
   | (with_reducible exact spec_l2Of.mono _ _ _ _ _ _)
   | (with_reducible exact LeO.refl _)
   | (with_reducible exact LeO.none _)
   | (with_reducible refine LeO.ite ?_ ?_)
   | (with_reducible refine LeO.bind ?_ (fun _=>?_))
   | exact ih0 _ _ _ _ _ _ _
   | exact spec_l2Of.mono _ _ _ _ _ _
   | exact LeO.none _
   | refine LeO.ite ?_ ?_
   | refine LeO.bind ?_ (fun _=>?_)
def spec_l6Vals.T5 : Bool × List (List Nat × List Nat):=(true,[([],[]),([],[]),([],[]),([],[]),([2,3],[2,3]),([4],[4]),([5],[5]),([],[]),([],[]),([7,8],[7,8]),([9],[9]),([10],[10]),([1,6,11],[1,6,11]),([12],[12]),([0,13,12],[0,13]),([14,14,0,1,2,3,4,5,6,7,8,9,10,11,12,13,14],[0,14])])
def spec_l6Vals.B5 : List Nat:=[0,0,0,0,12,28,60,0,0,384,896,1920,4094,8190,16383,32767]
theorem spec_l6Vals.tab5 : rtab .any (opsOf Try.f158 5) = spec_l6Vals.T5:=by kernel_rfl
theorem spec_l6Vals.bits5 : waitsOk spec_l6Vals.T5.2 spec_l6Vals.B5 = true:=by kernel_rfl
set_option maxHeartbeats 8000000 in
set_option maxRecDepth 100000 in
theorem spec_l6Vals.calls (k : Nat) (g : Nat) (s0_0 : List Int) (s0_1 : Int) (s0_2 : Int) (A1 : Option Addr) (c1 : Nat) (l1 : List (S119)) (a2 : Int) (r1 : List (S116)) (r2 : Int) (r3 : Int) (w0 w : World) (hI : J155 w0 w g s0_0 s0_1 s0_2) (hB : Below w0.heap.size w0 w) (hr1 : ∀ W_,KeepBut w W_ g none → Kd.C k119 W_ A1 l1.length l1) (hc1 : l1.length ≤ c1) (h : spec_l6Vals.f k s0_0 s0_1 s0_2 l1 a2 = some (r1,r2,r3)) :
  Calls Try.prog 158 #[.pointer (some ⟨g,0,none⟩),.slice A1 l1.length c1,.int .i64 a2] w fun e w'=>∃ v0_ : Value,e = .returned (v0_) ∧ Kd.R k116 116 w' w.heap.size (fun _=>True) v0_ r1 ∧ J155 w0 w' g s0_0 r2 r3 ∧ Below w0.heap.size w0 w' ∧ KeepBut w w' g none:=by
 have HR1:=aM_ hr1
 have HC1:=aM_ hc1
 clear hr1 hc1
 have HI0:=aM_ hI
 have HK:=aM_ (KeepBut.refl w g none)
 have HL:=aM_ hB.size
 clear hI
 have HW0:=aM_ hB.size
 have HB:=aM_ hB
 clear hB
 have H : (spec_l6Vals.l0 k l1 a2 (([] : List (S116))) 0 s0_0 s0_1 s0_2) = some (r1,r2,r3):=h
 clear h
 obtain ⟨y637,hy637⟩ : ∃ y_ : List (S116),y_ = (([] : List (S116))):=⟨_,rfl⟩
 replace H : (spec_l6Vals.l0 k l1 a2 y637 0 s0_0 s0_1 s0_2) = some (r1,r2,r3):=by first | (rw [hy637];with_reducible exact H) | (have H2_:=(Option.bind_some _ _).symm.trans H;rw [hy637];with_reducible exact H2_) | (have H2_:=(Option.bind_some _ _).symm.trans H;with_reducible exact H2_) | with_reducible exact H | (rw [hy637];exact H) | exact H
 have Ny637:=aM_ hy637
 clear hy637
 have H':=aM_ H
 clear H
 go_enter Try.func158,Try.ntmps158
 go_wp2_with (first | ((with_reducible refine gate_dst (N:=9) rfl ?_);(try (refine gate_guard (by rfl) ?_;dsimp only));refine Kd.R_lit k116 _ 116 ?hg (N:=9) ?hd (xs:=([] : List (S116))) (inner:=[]) (ok:=fun _=>True) (okp:=fun _=>True) ?hr ?hp (fun _ hk=>hk) trivial (Below.refl _ _) (Nat.le_refl _) (by simp) ?_;(case hd=>rfl);(case hg=>rfl);(case hr=>first | (go_simp;done) | (go_simp;rfl));(case hp=>exact (Reps.none _ _));intro v638 w4 ho5 hb hg_ hnew_;clear hg_ hnew_;(first | rw [← Ny637.out] at ho5 | (simp only [Int.reduceToNat] at ho5;rw [← Ny637.out] at ho5));have n0_:=aM_ (Kd.R_lower ho5 (keep_size (w:=w) (g:=g) (row:=none) (by exact eZ_ HK)));have n1_:=aM_ (J155.below (by repeat first | exact J155.z HI0 | apply J155.set_1 | apply J155.set_2 | refine J155.y ?_) hb);have n2_:=aM_ (KeepBut.trans (by exact eZ_ HK) (KeepBut.of_below hb g none) (.inl rfl));have n3_:=aM_ (bT_ (by have e0_:=aM_ (J155.ge HI0.out);exact bZ_ HB) hb);clear HI0;clear HK;clear HB;have HO639:=n0_;have HI0:=n1_;have HK:=n2_;have HB:=n3_;clear n0_ n1_ n2_ n3_;clear hb ho5))
 (try simp only [Act.put,sI_,sS_,sZ_])
 go_loopg [7,8] k (fun kq v7 v8 w'=>∃ (x7_1 : List (S116)) (x8_1 : Int) (x1001_1 : Int) (x1002_1 : Int),v8 = .int .i64 x8_1 ∧ Aside0 (spec_l6Vals.l0 kq l1 a2 x7_1 x8_1 s0_0 x1001_1 x1002_1 = some (r1,r2,r3)) ∧ Aside0 (kq ≤ k) ∧ Aside0 (Kd.R k116 116 w' w.heap.size (fun _=>True) v7 x7_1) ∧ Aside0 (J155 w0 w' g s0_0 x1001_1 x1002_1) ∧ Aside0 (KeepBut w w' g none) ∧ Aside0 (Below w0.heap.size w0 w'))
 case atStart=>exact ⟨(y637),(0),(s0_1),(s0_2),(by first | rfl | (simp;done) | (simp [*];done)),H', ⟨Nat.le_refl _⟩,⟨by exact rZ_ HO639⟩,⟨by repeat first | exact J155.z HI0 | apply J155.set_1 | apply J155.set_2 | refine J155.y ?_⟩,⟨by exact eZ_ HK⟩,⟨by have e0_:=aM_ (J155.ge HI0.out);exact bZ_ HB⟩⟩
 case round =>
  clear H'
  try clear c1
  try clear p2
  obtain ⟨x7_1,x8_1,x1001_1,x1002_1,rfl,HA,HK1,HO_7,HI0,HK,HB⟩:=hrel
  cases gk with
  | zero=>exact absurd HA.out (by simp [spec_l6Vals.l0])
  | succ k1 =>
   have H:=HA.out
   clear HA
   simp only [spec_l6Vals.l0] at H
   by_cases c6 : x8_1 < a2
   ·rw [if_pos c6] at H
    have c6b0 : decide (x8_1 < a2) = true:=decide_eq_true c6
    clear c6
    by_cases c7 : x8_1 < (l1.length : Int)
    ·rw [if_pos c7] at H
     have c7b0 : decide (x8_1 < (l1.length : Int)) = true:=decide_eq_true c7
     clear c7
     by_cases c8 : 0 ≤ x8_1
     ·rw [if_pos c8] at H
      have c8b0 : decide (0 ≤ x8_1) = true:=decide_eq_true c8
      clear c8
      replace H:=oB_ H
      obtain ⟨⟨t642,t643,t644,t645,t646⟩,A90,H⟩:=H
      replace H : (if x7_1.length < 4398046511104 then (spec_l6Vals.l0 k1 l1 a2 (x7_1 ++ [(⟨t642,t643,t644⟩ : S116)]) (wrap64 (x8_1 + 1)) s0_0 t645 t646) else (none)) = some (r1,r2,r3):=H
      have A9:=aM_ A90
      clear A90
      by_cases c10 : x7_1.length < 4398046511104
      ·rw [if_pos c10] at H
       have LMc10:=aM_ c10
       clear c10
       obtain ⟨y647,hy647⟩ : ∃ y_ : List (S116),y_ = (x7_1 ++ [(⟨t642,t643,t644⟩ : S116)]):=⟨_,rfl⟩
       replace H : (spec_l6Vals.l0 k1 l1 a2 y647 (wrap64 (x8_1 + 1)) s0_0 t645 t646) = some (r1,r2,r3):=by first | (rw [hy647];with_reducible exact H) | (have H2_:=(Option.bind_some _ _).symm.trans H;rw [hy647];with_reducible exact H2_) | (have H2_:=(Option.bind_some _ _).symm.trans H;with_reducible exact H2_) | with_reducible exact H | (rw [hy647];exact H) | exact H
       have Ny647:=aM_ hy647
       clear hy647
       have H':=aM_ H
       clear H
       try go_wp2
       have n0_:=aM_ (rD_ HO_7.out)
       have n1_:=aM_ (J155.drew HI0.out)
       have n2_:=aM_ (eD_ HK.out)
       have n3_:=aM_ (bD_ HB.out)
       clear HO_7
       clear HI0
       clear HK
       clear HB
       have HO_7:=n0_
       have HI0:=n1_
       have HK:=n2_
       have HB:=n3_
       clear n0_ n1_ n2_ n3_
       have p640 : 0 ≤ (x8_1 : Int):=oT_ (by first | (with_reducible assumption) | assumption)
       have q640 : x8_1 < (l1.length : Int):=oT_ (by first | (with_reducible assumption) | assumption)
       obtain ⟨ad640,e640,hx640_0,hx640_1,hx640_2,hx640_3⟩:=at_T119 (Kd.C_foot_now HR1.out HK.out) x8_1 p640 q640
       have hw640_3:=hx640_3
       have hw640_2:=hx640_2
       have hw640_1:=hx640_1
       have hw640_0:=hx640_0
       cases e640
       have hne640_3:=(show (⟨(ad640.add ((x8_1).toNat * 4)).block,(ad640.add ((x8_1).toNat * 4)).off + 3,none⟩ : Addr).block ≠ g from by first | (rw [add_block];exact Kd.foot_ne HR1.out (by omega) (by decide)) | (show (Addr.add _ _).block ≠ _;rw [add_block];exact Kd.foot_ne HR1.out (by omega) (by decide)) | exact Kd.foot_ne HR1.out (by omega) (by decide) | (dsimp only;exact Kd.foot_ne HR1.out (by omega) (by decide)))
       have hlt640_3:=(Kd.foot_lt HR1.out (by omega) (by decide))
       have hne640_2:=(show (⟨(ad640.add ((x8_1).toNat * 4)).block,(ad640.add ((x8_1).toNat * 4)).off + 2,none⟩ : Addr).block ≠ g from by first | (rw [add_block];exact Kd.foot_ne HR1.out (by omega) (by decide)) | (show (Addr.add _ _).block ≠ _;rw [add_block];exact Kd.foot_ne HR1.out (by omega) (by decide)) | exact Kd.foot_ne HR1.out (by omega) (by decide) | (dsimp only;exact Kd.foot_ne HR1.out (by omega) (by decide)))
       have hlt640_2:=(Kd.foot_lt HR1.out (by omega) (by decide))
       have hne640_1:=(show (⟨(ad640.add ((x8_1).toNat * 4)).block,(ad640.add ((x8_1).toNat * 4)).off + 1,none⟩ : Addr).block ≠ g from by first | (rw [add_block];exact Kd.foot_ne HR1.out (by omega) (by decide)) | (show (Addr.add _ _).block ≠ _;rw [add_block];exact Kd.foot_ne HR1.out (by omega) (by decide)) | exact Kd.foot_ne HR1.out (by omega) (by decide) | (dsimp only;exact Kd.foot_ne HR1.out (by omega) (by decide)))
       have hlt640_1:=(Kd.foot_lt HR1.out (by omega) (by decide))
       have hne640_0:=(show ((ad640.add ((x8_1).toNat * 4)) : Addr).block ≠ g from by first | (rw [add_block];exact Kd.foot_ne HR1.out (by omega) (by decide)) | (show (Addr.add _ _).block ≠ _;rw [add_block];exact Kd.foot_ne HR1.out (by omega) (by decide)) | exact Kd.foot_ne HR1.out (by omega) (by decide) | (dsimp only;exact Kd.foot_ne HR1.out (by omega) (by decide)))
       have hlt640_0:=(Kd.foot_lt HR1.out (by omega) (by decide))
       replace p640:=eq_true p640
       replace q640:=eq_true q640
       have p641 : 0 ≤ (x8_1 : Int):=oT_ (by first | (with_reducible assumption) | assumption)
       have q641 : x8_1 < (l1.length : Int):=oT_ (by first | (with_reducible assumption) | assumption)
       obtain ⟨ad641,e641,hx641_0,hx641_1,hx641_2,hx641_3⟩:=at_T119 (Kd.C_foot_now HR1.out HK.out) x8_1 p641 q641
       have hw641_3:=hx641_3
       have hw641_2:=hx641_2
       have hw641_1:=hx641_1
       have hw641_0:=hx641_0
       obtain rfl : ad640 = ad641:=(by injection e641)
       have hne641_3:=(show (⟨(ad640.add ((x8_1).toNat * 4)).block,(ad640.add ((x8_1).toNat * 4)).off + 3,none⟩ : Addr).block ≠ g from by first | (rw [add_block];exact Kd.foot_ne HR1.out (by omega) (by decide)) | (show (Addr.add _ _).block ≠ _;rw [add_block];exact Kd.foot_ne HR1.out (by omega) (by decide)) | exact Kd.foot_ne HR1.out (by omega) (by decide) | (dsimp only;exact Kd.foot_ne HR1.out (by omega) (by decide)))
       have hlt641_3:=(Kd.foot_lt HR1.out (by omega) (by decide))
       have hne641_2:=(show (⟨(ad640.add ((x8_1).toNat * 4)).block,(ad640.add ((x8_1).toNat * 4)).off + 2,none⟩ : Addr).block ≠ g from by first | (rw [add_block];exact Kd.foot_ne HR1.out (by omega) (by decide)) | (show (Addr.add _ _).block ≠ _;rw [add_block];exact Kd.foot_ne HR1.out (by omega) (by decide)) | exact Kd.foot_ne HR1.out (by omega) (by decide) | (dsimp only;exact Kd.foot_ne HR1.out (by omega) (by decide)))
       have hlt641_2:=(Kd.foot_lt HR1.out (by omega) (by decide))
       have hne641_1:=(show (⟨(ad640.add ((x8_1).toNat * 4)).block,(ad640.add ((x8_1).toNat * 4)).off + 1,none⟩ : Addr).block ≠ g from by first | (rw [add_block];exact Kd.foot_ne HR1.out (by omega) (by decide)) | (show (Addr.add _ _).block ≠ _;rw [add_block];exact Kd.foot_ne HR1.out (by omega) (by decide)) | exact Kd.foot_ne HR1.out (by omega) (by decide) | (dsimp only;exact Kd.foot_ne HR1.out (by omega) (by decide)))
       have hlt641_1:=(Kd.foot_lt HR1.out (by omega) (by decide))
       have hne641_0:=(show ((ad640.add ((x8_1).toNat * 4)) : Addr).block ≠ g from by first | (rw [add_block];exact Kd.foot_ne HR1.out (by omega) (by decide)) | (show (Addr.add _ _).block ≠ _;rw [add_block];exact Kd.foot_ne HR1.out (by omega) (by decide)) | exact Kd.foot_ne HR1.out (by omega) (by decide) | (dsimp only;exact Kd.foot_ne HR1.out (by omega) (by decide)))
       have hlt641_0:=(Kd.foot_lt HR1.out (by omega) (by decide))
       replace p641:=eq_true p641
       replace q641:=eq_true q641
       refine start_ (n:=16) (S:=fun w'=>w'.cell? (ad640.add ((x8_1).toNat * 4)) = some (.int .i64 ((rd_T119 l1 x8_1).f0)) ∧ w'.cell? ⟨(ad640.add ((x8_1).toNat * 4)).block,(ad640.add ((x8_1).toNat * 4)).off + 1,none⟩ = some (.int .i64 ((rd_T119 l1 x8_1).f1)) ∧ w'.cell? ⟨(ad640.add ((x8_1).toNat * 4)).block,(ad640.add ((x8_1).toNat * 4)).off + 2,none⟩ = some (.bool ((rd_T119 l1 x8_1).f2)) ∧ w'.cell? ⟨(ad640.add ((x8_1).toNat * 4)).block,(ad640.add ((x8_1).toNat * 4)).off + 3,none⟩ = some (.bool ((rd_T119 l1 x8_1).f3)) ∧ w'.cell? (ad640.add ((x8_1).toNat * 4)) = some (.int .i64 ((rd_T119 l1 x8_1).f0)) ∧ w'.cell? ⟨(ad640.add ((x8_1).toNat * 4)).block,(ad640.add ((x8_1).toNat * 4)).off + 1,none⟩ = some (.int .i64 ((rd_T119 l1 x8_1).f1)) ∧ w'.cell? ⟨(ad640.add ((x8_1).toNat * 4)).block,(ad640.add ((x8_1).toNat * 4)).off + 2,none⟩ = some (.bool ((rd_T119 l1 x8_1).f2)) ∧ w'.cell? ⟨(ad640.add ((x8_1).toNat * 4)).block,(ad640.add ((x8_1).toNat * 4)).off + 3,none⟩ = some (.bool ((rd_T119 l1 x8_1).f3))) (ds:=[13,14]) (tb_ 0 16) (by kernel_rfl) rfl rfl ⟨hx640_0,hx640_1,hx640_2,hx640_3,hx641_0,hx641_1,hx641_2,hx641_3⟩ (fun hHeld=>?_);refine with_tabW spec_l6Vals.tab5 spec_l6Vals.bits5 (fun HT_ HW_=>?_)
       generalize wr.drew = w11 at HO_7 HI0 HK HB hx640_0 hx640_1 hx640_2 hx640_3 hx641_0 hx641_1 hx641_2 hx641_3 hHeld ⊢
       refine pure_ (i:=0) (N:=some 21) (v:=?_) (a':=?_) (tb_ 1 15) rfl rfl (any_of HT_.out (by kernel_rfl)) (fun _ _ _ h=>h) (Or.inl ⟨by rfl,?_⟩) ?_ ?_
       rotate_left
       ·intro w'
        go_simp
        with_reducible rfl
       rotate_left
       ·simp only [Act.put,sI_,sZ_,sS_,i64_w,i32_w]
        rfl
       refine pure_ (i:=1) (N:=some 22) (v:=?_) (a':=?_) (tb_ 2 14) rfl rfl (any_of HT_.out (by kernel_rfl)) (fun _ _ _ h=>h) (Or.inl ⟨by rfl,?_⟩) ?_ ?_
       rotate_left
       ·intro w'
        go_simp
        with_reducible rfl
       rotate_left
       ·simp only [Act.put,sI_,sZ_,sS_,i64_w,i32_w]
        rfl
       refine pure_ (i:=2) (N:=some 23) (v:=?_) (a':=?_) (tb_ 3 13) rfl rfl (any_of HT_.out (by kernel_rfl)) (fun _ _ _ h=>h) (Or.inl ⟨by rfl,?_⟩) ?_ ?_
       rotate_left
       ·intro w'
        go_simp
        with_reducible rfl
       rotate_left
       ·simp only [Act.put,sI_,sZ_,sS_,i64_w,i32_w]
        rfl
       refine pure_ (i:=3) (N:=some 24) (v:=?_) (a':=?_) (tb_ 4 12) rfl rfl (any_of HT_.out (by kernel_rfl)) (fun _ _ _ h=>h) (Or.inl ⟨by rfl,?_⟩) ?_ ?_
       rotate_left
       ·intro w'
        go_simp
        with_reducible rfl
       rotate_left
       ·simp only [Act.put,sI_,sZ_,sS_,i64_w,i32_w]
        rfl
       refine pure_ (i:=4) (N:=some 25) (v:=?_) (a':=?_) (tb_ 5 11) rfl rfl (any_of HT_.out (by kernel_rfl)) (fun _ _ _ h=>h) (Or.inl ⟨by rfl,?_⟩) ?_ ?_
       rotate_left
       ·intro w'
        go_simp
        with_reducible rfl
       rotate_left
       ·simp only [Act.put,sI_,sZ_,sS_,i64_w,i32_w]
        rfl
       refine pure_ (i:=5) (N:=some 26) (v:=?_) (a':=?_) (tb_ 6 10) rfl rfl (any_of HT_.out (by kernel_rfl)) (fun _ _ _ h=>h) (Or.inl ⟨by rfl,?_⟩) ?_ ?_
       rotate_left
       ·intro w'
        go_simp
        with_reducible rfl
       rotate_left
       ·simp only [Act.put,sI_,sZ_,sS_,i64_w,i32_w]
        rfl
       refine pure_ (i:=7) (N:=some 28) (v:=?_) (a':=?_) #[true,true,true,true,true,true,false,true,false,false,false,false,false,false,false,false] rfl rfl (any_of HT_.out (by kernel_rfl)) (fun _ _ _ h=>h) (Or.inl ⟨by rfl,?_⟩) ?_ ?_
       rotate_left
       ·intro w'
        go_simp
        with_reducible rfl
       rotate_left
       ·simp only [Act.put,sI_,sZ_,sS_,i64_w,i32_w]
        rfl
       refine pure_ (i:=8) (N:=some 29) (v:=?_) (a':=?_) #[true,true,true,true,true,true,false,true,true,false,false,false,false,false,false,false] rfl rfl (any_of HT_.out (by kernel_rfl)) (fun _ _ _ h=>h) (Or.inl ⟨by rfl,?_⟩) ?_ ?_
       rotate_left
       ·intro w'
        go_simp
        with_reducible rfl
       rotate_left
       ·simp only [Act.put,sI_,sZ_,sS_,i64_w,i32_w]
        rfl
       refine pure_ (i:=9) (N:=some 30) (v:=?_) (a':=?_) #[true,true,true,true,true,true,false,true,true,true,false,false,false,false,false,false] rfl rfl (any_of HT_.out (by kernel_rfl)) (fun _ _ _ h=>h) (Or.inl ⟨by rfl,?_⟩) ?_ ?_
       rotate_left
       ·intro w'
        go_simp
        with_reducible rfl
       rotate_left
       ·simp only [Act.put,sI_,sZ_,sS_,i64_w,i32_w]
        rfl
       refine pure_ (i:=10) (N:=some 31) (v:=?_) (a':=?_) #[true,true,true,true,true,true,false,true,true,true,true,false,false,false,false,false] rfl rfl (any_of HT_.out (by kernel_rfl)) (fun _ _ _ h=>h) (Or.inl ⟨by rfl,?_⟩) ?_ ?_
       rotate_left
       ·intro w'
        go_simp
        with_reducible rfl
       rotate_left
       ·simp only [Act.put,sI_,sZ_,sS_,i64_w,i32_w]
        rfl
       refine take_ (i:=6) (N:=some 27) (v:=?_) (a':=?_) (tb_ 11 5) rfl rfl (take_ofW HT_.out HW_.out (by kernel_rfl)) (fun _ _ _ h=>h) (Or.inl ⟨by rfl,?_⟩) hHeld ?_ ?_
       rotate_left
       ·rintro w' ⟨s0,s1,s2,s3,s4,s5,s6,s7⟩
        go_simp
        with_reducible rfl
       rotate_left
       ·simp only [Act.put,sI_,sZ_,sS_,i64_w,i32_w]
        rfl
       refine take_ (i:=11) (N:=some 32) (v:=?_) (a':=?_) (tb_ 12 4) rfl rfl (take_ofW HT_.out HW_.out (by kernel_rfl)) (fun _ _ _ h=>h) (Or.inl ⟨by rfl,?_⟩) hHeld ?_ ?_
       rotate_left
       ·rintro w' ⟨s0,s1,s2,s3,s4,s5,s6,s7⟩
        go_simp
        with_reducible rfl
       rotate_left
       ·simp only [Act.put,sI_,sZ_,sS_,i64_w,i32_w]
        rfl
       refine one_ (i:=12) (N:=some 33) (tb_ 13 3) rfl rfl (one_of HT_.out (by kernel_rfl)) (by decide) (fun K hK=>?_)
       refine goes_ Try.func180 (by kernel_rfl) rfl #[.pointer (some ⟨g,0,none⟩),.int .i64 ((rd_T119 l1 x8_1).f1),.bool ((rd_T119 l1 x8_1).f2)] (by rfl) rfl rfl (by (try simp only [mA_,mC_,mN_]);first | done | rfl | (simp only [lD_,lT_];rfl)) ?_
       with_reducible refine (spec_l2Of.calls k1 g s0_0 x1001_1 x1002_1 ((rd_T119 l1 x8_1).f1) ((rd_T119 l1 x8_1).f2) t642 t643 t644 t645 t646 w0 _ ?side1 ?side2 A9.out).mono ?_
       (case side1=>repeat first | exact J155.z HI0 | apply J155.set_1 | apply J155.set_2 | refine J155.y ?_)
       (case side2=>have e0_:=aM_ (J155.ge HI0.out);exact bZ_ HB)
       rintro e w12 ⟨rfl,hi,hb,hk⟩
       have HS0_:=keep_cell hk (hHeld.1) (by first | (rw [add_block];exact hne640_0) | (show (Addr.add _ _).block ≠ _;rw [add_block];exact hne640_0) | exact hne640_0)
       have HS1_:=keep_cell hk (hHeld.2.1) (by first | (rw [add_block];exact hne640_1) | (show (Addr.add _ _).block ≠ _;rw [add_block];exact hne640_1) | exact hne640_1)
       have HS2_:=keep_cell hk (hHeld.2.2.1) (by first | (rw [add_block];exact hne640_2) | (show (Addr.add _ _).block ≠ _;rw [add_block];exact hne640_2) | exact hne640_2)
       have HS3_:=keep_cell hk (hHeld.2.2.2.1) (by first | (rw [add_block];exact hne640_3) | (show (Addr.add _ _).block ≠ _;rw [add_block];exact hne640_3) | exact hne640_3)
       have HS4_:=keep_cell hk (hHeld.2.2.2.2.1) (by first | (rw [add_block];exact hne641_0) | (show (Addr.add _ _).block ≠ _;rw [add_block];exact hne641_0) | exact hne641_0)
       have HS5_:=keep_cell hk (hHeld.2.2.2.2.2.1) (by first | (rw [add_block];exact hne641_1) | (show (Addr.add _ _).block ≠ _;rw [add_block];exact hne641_1) | exact hne641_1)
       have HS6_:=keep_cell hk (hHeld.2.2.2.2.2.2.1) (by first | (rw [add_block];exact hne641_2) | (show (Addr.add _ _).block ≠ _;rw [add_block];exact hne641_2) | exact hne641_2)
       have HS7_:=keep_cell hk (hHeld.2.2.2.2.2.2.2) (by first | (rw [add_block];exact hne641_3) | (show (Addr.add _ _).block ≠ _;rw [add_block];exact hne641_3) | exact hne641_3)
       refine ⟨_,rfl,?_⟩
       have n0_:=aM_ (Kd.R_mono (Kd.R_keep (J155.apart (show J155 w0 _ g s0_0 x1001_1 x1002_1 from by repeat first | exact J155.z HI0 | apply J155.set_1 | apply J155.set_2 | refine J155.y ?_) (by exact rZ_ HO_7) (by decide)) hk (fun _ h=>h.2)) (fun _ h=>h.1))
       have n1_:=aM_ (KeepBut.trans (by exact eZ_ HK) hk (.inl rfl))
       have n2_:=aM_ (hb)
       have n3_:=aM_ (hi)
       clear HO_7
       clear HK
       clear HB
       clear HI0
       have HO_7:=n0_
       have HK:=n1_
       have HB:=n2_
       have HI0:=n3_
       clear n0_ n1_ n2_ n3_
       (try clear hb)
       (try clear hb2)
       (try clear hk)
       (try clear hi)
       refine hK.out _ _ ⟨HS0_,HS1_,HS2_,HS3_,HS4_,HS5_,HS6_,HS7_⟩ (fun hHeld=>?_)
       clear hK K
       refine norm_ (a':=?_) ?_ ?_
       rotate_left
       ·show Act.put _ (some 33) _ = _
        simp only [Act.put,sI_,sZ_,sS_,i64_w,i32_w]
        rfl
       refine last_ (i:=13) (N:=some 34) (tb_ 14 2) rfl rfl (one_of HT_.out (by kernel_rfl)) (by decide) (fun K hK=>?_)
       refine value_ (w1:=?_) (v:=?_) (by rfl) rfl ?_ ?_
       rotate_left 2
       ·go_simp
        constructor
        ·rfl
        ·rfl
       refine hK.out _ _ ?_
       clear hK K
       refine norm_ (a':=?_) ?_ ?_
       rotate_left
       ·show Act.put _ (some 34) _ = _
        simp only [Act.put,sI_,sZ_,sS_,i64_w,i32_w]
        rfl
       refine last_ (i:=14) (N:=some 35) (tb_ 15 1) rfl rfl (one_of HT_.out (by kernel_rfl)) (by decide) (fun K hK=>?_)
       refine Kd.R_append_step k116 w.heap.size (by rfl) (.tmp 21) (.tmp 34) 50 116 (.agg #[(.int .i64 0),(.int .i64 0),(.string ⟨#[]⟩)]) 32 rfl Try.underlying50 info116 rfl (by decide) (by omega) u7 x7_1 (⟨t642,t643,t644⟩ : S116) [.int .i64 t642,.int .i64 t643,.string t644] (fun _=>True) (fun _=>False) rfl rfl ?aP (fun _ hk=>hk.elim) ?aF ?aO (Below.refl _ _) ?aS ?aL ?_
       (case aP=>exact k116_mkM _ _ _ (⟨t642,t643,t644⟩ : S116))
       (case aF=>exact (fun _ _=>trivial))
       (case aO=>exact (by exact rZ_ HO_7))
       (case aS=>exact (keep_size (w:=w) (g:=g) (row:=none) (by exact eZ_ HK)))
       (case aL=>have:=LMc10.out;omega)
       intro v648 w13 ho hb hg hat
       rw [← Ny647.out] at ho
       have n0_:=aM_ (J155.grown (by repeat first | exact J155.z HI0 | apply J155.set_1 | apply J155.set_2 | refine J155.y ?_) hg (J155.own_ne HI0.out HO_7.out (by decide)))
       have n1_:=aM_ (below_weaken (by have e0_:=aM_ (J155.ge HI0.out);exact bZ_ HB) HL.out hb)
       have n2_:=aM_ (KeepBut.trans (by exact eZ_ HK) (KeepBut.of_grown hg g) (Kd.R_base2 HO_7.out))
       have n3_:=aM_ (ho)
       clear HI0
       clear HB
       clear HK
       clear HO_7
       have HI0:=n0_
       have HB:=n1_
       have HK:=n2_
       have HO649:=n3_
       clear n0_ n1_ n2_ n3_
       clear ho hb hg hat
       refine hK.out _ _ ?_
       clear hK K
       refine norm_ (a':=?_) ?_ ?_
       rotate_left
       ·show Act.put _ (some 35) _ = _
        simp only [Act.put,sI_,sZ_,sS_,i64_w,i32_w]
        rfl
       refine pure_ (i:=15) (N:=some 7) (v:=?_) (a':=?_) (tb_ 16 0) rfl rfl (any_of HT_.out (by kernel_rfl)) (fun _ _ _ h=>h) (Or.inl ⟨by rfl,?_⟩) ?_ ?_
       rotate_left
       ·intro w'
        go_simp
        with_reducible rfl
       rotate_left
       ·simp only [Act.put,sI_,sZ_,sS_,i64_w,i32_w]
        rfl
       refine done_ (done_of HT_.out (by kernel_rfl)) ?_
       try go_wp2
       go_roundg k1
       case measure=>have:=HK1.out;omega
       case rel=>exact ⟨(y647),(wrap64 (x8_1 + 1)),(t645),(t646),(by first | rfl | (simp;done) | (simp [*];done)),H', ⟨by have:=HK1.out;omega⟩,⟨by exact rZ_ HO649⟩,⟨by repeat first | exact J155.z HI0 | apply J155.set_1 | apply J155.set_2 | refine J155.y ?_⟩,⟨by exact eZ_ HK⟩,⟨by have e0_:=aM_ (J155.ge HI0.out);exact bZ_ HB⟩⟩
      ·rw [if_neg c10] at H
       exact absurd H (by simp)
     ·rw [if_neg c8] at H
      exact absurd H (by simp)
    ·rw [if_neg c7] at H
     have c7b0 : decide (x8_1 < (l1.length : Int)) = false:=decide_eq_false c7
     clear c7
     simp only [Option.some.injEq,Prod.mk.injEq] at H
     obtain ⟨rfl,rfl,rfl⟩:=H
     go_wp2
     go_ret
     exact ⟨_,by first | rfl | (simp [errW_none,errW_some] <;> rfl) | (simp [*, errW_none,errW_some] <;> rfl),by exact rZ_ HO_7,by repeat first | exact J155.z HI0 | apply J155.set_1 | apply J155.set_2 | refine J155.y ?_,by have e0_:=aM_ (J155.ge HI0.out);exact bZ_ HB,by exact eZ_ HK⟩
   ·rw [if_neg c6] at H
    have c6b0 : decide (x8_1 < a2) = false:=decide_eq_false c6
    clear c6
    simp only [Option.some.injEq,Prod.mk.injEq] at H
    obtain ⟨rfl,rfl,rfl⟩:=H
    go_wp2
    go_ret
    exact ⟨_,by first | rfl | (simp [errW_none,errW_some] <;> rfl) | (simp [*, errW_none,errW_some] <;> rfl),by exact rZ_ HO_7,by repeat first | exact J155.z HI0 | apply J155.set_1 | apply J155.set_2 | refine J155.y ?_,by have e0_:=aM_ (J155.ge HI0.out);exact bZ_ HB,by exact eZ_ HK⟩
def spec_l7Row.f (k : Nat) (s0_0 : List Int) (s0_1 : Int) (s0_2 : Int) (l1 : List (S119)) : Option ((List (S116)) × Int × Int):=(spec_PlanOk.f k l1).bind fun t650=>(if t650 = true then ((spec_l6Vals.f k s0_0 s0_1 s0_2 l1 (l1.length : Int)).bind fun bt651=>(some (bt651.1,bt651.2.1,bt651.2.2))) else ((spec_l2Draw.f k s0_0 s0_1 s0_2).bind fun bt656=>(some ((([(⟨bt656.1,bt656.2.1,bt656.2.2.1⟩ : S116)] : List (S116))),bt656.2.2.2.1,bt656.2.2.2.2))))
theorem spec_l7Row.mono : ∀ a0 a1 a2 a3 k,LeO (spec_l7Row.f k a0 a1 a2 a3) (spec_l7Row.f (k + 1) a0 a1 a2 a3):=by
 intro a0 a1 a2 a3 k
 unfold spec_l7Row.f
 repeat' first
   | (with_reducible exact spec_PlanOk.mono _ _)
   | (with_reducible exact spec_l2Draw.mono _ _ _ _)
   | (with_reducible exact spec_l6Vals.mono _ _ _ _ _ _)
   | (with_reducible exact LeO.refl _)
   | (with_reducible exact LeO.none _)
   | (with_reducible refine LeO.ite ?_ ?_)
   | (with_reducible refine LeO.bind ?_ (fun _=>?_))
   | exact spec_PlanOk.mono _ _
   | exact spec_l2Draw.mono _ _ _ _
   | exact spec_l6Vals.mono _ _ _ _ _ _
   | exact LeO.none _
   | refine LeO.ite ?_ ?_
   | refine LeO.bind ?_ (fun _=>?_)
set_option maxHeartbeats 8000000 in
set_option maxRecDepth 100000 in
theorem spec_l7Row.calls (k : Nat) (g : Nat) (s0_0 : List Int) (s0_1 : Int) (s0_2 : Int) (A1 : Option Addr) (c1 : Nat) (l1 : List (S119)) (r1 : List (S116)) (r2 : Int) (r3 : Int) (w0 w : World) (hI : J155 w0 w g s0_0 s0_1 s0_2) (hB : Below w0.heap.size w0 w) (hr1 : ∀ W_,KeepBut w W_ g none → Kd.C k119 W_ A1 l1.length l1) (hc1 : l1.length ≤ c1) (h : spec_l7Row.f k s0_0 s0_1 s0_2 l1 = some (r1,r2,r3)) :
  Calls Try.prog 109 #[.pointer (some ⟨g,0,none⟩),.slice A1 l1.length c1] w fun e w'=>∃ v0_ : Value,e = .returned (v0_) ∧ Kd.R k116 116 w' w.heap.size (fun _=>True) v0_ r1 ∧ J155 w0 w' g s0_0 r2 r3 ∧ Below w0.heap.size w0 w' ∧ KeepBut w w' g none:=by
 have HR1:=aM_ hr1
 have HC1:=aM_ hc1
 clear hr1 hc1
 have HI0:=aM_ hI
 have HK:=aM_ (KeepBut.refl w g none)
 have HL:=aM_ hB.size
 clear hI
 have HW0:=aM_ hB.size
 have HB:=aM_ hB
 clear hB
 have H : ((spec_PlanOk.f k l1).bind fun t650=>(if t650 = true then ((spec_l6Vals.f k s0_0 s0_1 s0_2 l1 (l1.length : Int)).bind fun bt651=>(some (bt651.1,bt651.2.1,bt651.2.2))) else ((spec_l2Draw.f k s0_0 s0_1 s0_2).bind fun bt656=>(some ((([(⟨bt656.1,bt656.2.1,bt656.2.2.1⟩ : S116)] : List (S116))),bt656.2.2.2.1,bt656.2.2.2.2))))) = some (r1,r2,r3):=h
 clear h
 replace H:=oB_ H
 obtain ⟨t650,A30,H⟩:=H
 replace H : (if t650 = true then ((spec_l6Vals.f k s0_0 s0_1 s0_2 l1 (l1.length : Int)).bind fun bt651=>(some (bt651.1,bt651.2.1,bt651.2.2))) else ((spec_l2Draw.f k s0_0 s0_1 s0_2).bind fun bt656=>(some ((([(⟨bt656.1,bt656.2.1,bt656.2.2.1⟩ : S116)] : List (S116))),bt656.2.2.2.1,bt656.2.2.2.2)))) = some (r1,r2,r3):=H
 have A3:=aM_ A30
 clear A30
 by_cases c4 : t650 = true
 ·subst c4
  have H1 : ((spec_l6Vals.f k s0_0 s0_1 s0_2 l1 (l1.length : Int)).bind fun bt651=>(some (bt651.1,bt651.2.1,bt651.2.2))) = some (r1,r2,r3):=by rw [if_pos rfl] at H;exact H
  clear H
  have H:=H1
  clear H1
  replace H:=oB_ H
  obtain ⟨⟨t651,t654,t655⟩,A50,H⟩:=H
  replace H : (some (t651,t654,t655)) = some (r1,r2,r3):=H
  have A5:=aM_ A50
  clear A50
  simp only [Option.some.injEq,Prod.mk.injEq] at H
  obtain ⟨rfl,rfl,rfl⟩:=H
  go_enter Try.func109,Try.ntmps109
  go_wp2_with (first | ((with_reducible refine gate_callee (f:=110) rfl ?_);refine goesL_ (some 6) rfl rfl Try.func110 (by kernel_rfl) rfl #[.slice A1 l1.length c1] rfl (by (try simp only [mA_,mC_,mN_]);first | done | rfl | (simp only [lD_,lT_];rfl)) ?_;(with_reducible refine (spec_PlanOk.calls k _ _ l1 true _ ?side1 ?side2 A3.out).mono ?_);(case side1=>exact Kd.C_foot_now HR1.out (by exact eZ_ HK));(case side2=>exact HC1.out);rintro e w6 ⟨rfl,hb⟩;refine ⟨_,rfl,?_⟩;have n0_:=aM_ (J155.below (by repeat first | exact J155.z HI0 | apply J155.set_1 | apply J155.set_2 | refine J155.y ?_) hb);have n1_:=aM_ (KeepBut.trans (by exact eZ_ HK) (KeepBut.of_below hb g none) (.inl rfl));have n2_:=aM_ (bT_ (by have e0_:=aM_ (J155.ge HI0.out);exact bZ_ HB) hb);clear HI0;clear HK;clear HB;have HI0:=n0_;have HK:=n1_;have HB:=n2_;clear n0_ n1_ n2_;(try clear hb);(try clear hb2);(try clear hk);(try clear hi)) | ((with_reducible refine gate_callee (f:=158) rfl ?_);refine goesL_ (some 15) rfl rfl Try.func158 (by kernel_rfl) rfl #[.pointer (some ⟨g,0,none⟩),.slice A1 l1.length c1,.int .i64 (l1.length : Int)] rfl (by (try simp only [mA_,mC_,mN_]);first | done | rfl | (simp only [lD_,lT_];rfl)) ?_;(with_reducible refine (spec_l6Vals.calls k g s0_0 s0_1 s0_2 _ _ l1 (l1.length : Int) t651 t654 t655 w0 _ ?side1 ?side2 ?side3 ?side4 A5.out).mono ?_);(case side1=>repeat first | exact J155.z HI0 | apply J155.set_1 | apply J155.set_2 | refine J155.y ?_);(case side2=>have e0_:=aM_ (J155.ge HI0.out);exact bZ_ HB);(case side3=>exact Kd.C_foot_step HR1.out (by exact eZ_ HK));(case side4=>exact HC1.out);rintro e w7 ⟨v652,rfl,ho0,hi,hb,hk⟩;refine ⟨_,rfl,?_⟩;have n0_:=aM_ (Kd.R_lower ho0 (keep_size (w:=w) (g:=g) (row:=none) (by exact eZ_ HK)));have n1_:=aM_ (KeepBut.trans (by exact eZ_ HK) hk (.inl rfl));have n2_:=aM_ (hb);have n3_:=aM_ (hi);clear HK;clear HB;clear HI0;have HO653:=n0_;have HK:=n1_;have HB:=n2_;have HI0:=n3_;clear n0_ n1_ n2_ n3_;(try clear hb);(try clear hb2);(try clear hk);(try clear hi);(try clear ho0)))
  go_ret
  exact ⟨_,by first | rfl | (simp [errW_none,errW_some] <;> rfl) | (simp [*, errW_none,errW_some] <;> rfl),by exact rZ_ HO653,by repeat first | exact J155.z HI0 | apply J155.set_1 | apply J155.set_2 | refine J155.y ?_,by have e0_:=aM_ (J155.ge HI0.out);exact bZ_ HB,by exact eZ_ HK⟩
 ·replace c4:=Bool.eq_false_iff.mpr c4
  subst c4
  have H1 : ((spec_l2Draw.f k s0_0 s0_1 s0_2).bind fun bt656=>(some ((([(⟨bt656.1,bt656.2.1,bt656.2.2.1⟩ : S116)] : List (S116))),bt656.2.2.2.1,bt656.2.2.2.2))) = some (r1,r2,r3):=by rw [if_neg (show ¬ (false = true) by decide)] at H;exact H
  clear H
  have H:=H1
  clear H1
  replace H:=oB_ H
  obtain ⟨⟨t656,t657,t658,t659,t660⟩,A80,H⟩:=H
  replace H : (some ((([(⟨t656,t657,t658⟩ : S116)] : List (S116))),t659,t660)) = some (r1,r2,r3):=H
  have A8:=aM_ A80
  clear A80
  obtain ⟨y661,hy661⟩ : ∃ y_ : List (S116),y_ = (([(⟨t656,t657,t658⟩ : S116)] : List (S116))):=⟨_,rfl⟩
  replace H : (some (y661,t659,t660)) = some (r1,r2,r3):=by first | (rw [hy661];with_reducible exact H) | (have H2_:=(Option.bind_some _ _).symm.trans H;rw [hy661];with_reducible exact H2_) | (have H2_:=(Option.bind_some _ _).symm.trans H;with_reducible exact H2_) | with_reducible exact H | (rw [hy661];exact H) | exact H
  have Ny661:=aM_ hy661
  clear hy661
  simp only [Option.some.injEq,Prod.mk.injEq] at H
  obtain ⟨rfl,rfl,rfl⟩:=H
  go_enter Try.func109,Try.ntmps109
  go_wp2_with (first | ((with_reducible refine gate_callee (f:=110) rfl ?_);refine goesL_ (some 6) rfl rfl Try.func110 (by kernel_rfl) rfl #[.slice A1 l1.length c1] rfl (by (try simp only [mA_,mC_,mN_]);first | done | rfl | (simp only [lD_,lT_];rfl)) ?_;(with_reducible refine (spec_PlanOk.calls k _ _ l1 false _ ?side1 ?side2 A3.out).mono ?_);(case side1=>exact Kd.C_foot_now HR1.out (by exact eZ_ HK));(case side2=>exact HC1.out);rintro e w9 ⟨rfl,hb⟩;refine ⟨_,rfl,?_⟩;have n0_:=aM_ (J155.below (by repeat first | exact J155.z HI0 | apply J155.set_1 | apply J155.set_2 | refine J155.y ?_) hb);have n1_:=aM_ (KeepBut.trans (by exact eZ_ HK) (KeepBut.of_below hb g none) (.inl rfl));have n2_:=aM_ (bT_ (by have e0_:=aM_ (J155.ge HI0.out);exact bZ_ HB) hb);clear HI0;clear HK;clear HB;have HI0:=n0_;have HK:=n1_;have HB:=n2_;clear n0_ n1_ n2_;(try clear hb);(try clear hb2);(try clear hk);(try clear hi)) | ((with_reducible refine gate_callee (f:=157) rfl ?_);refine goesL_ (some 9) rfl rfl Try.func157 (by kernel_rfl) rfl #[.pointer (some ⟨g,0,none⟩)] rfl (by (try simp only [mA_,mC_,mN_]);first | done | rfl | (simp only [lD_,lT_];rfl)) ?_;(with_reducible refine (spec_l2Draw.calls k g s0_0 s0_1 s0_2 t656 t657 t658 t659 t660 w0 _ ?side1 ?side2 A8.out).mono ?_);(case side1=>repeat first | exact J155.z HI0 | apply J155.set_1 | apply J155.set_2 | refine J155.y ?_);(case side2=>have e0_:=aM_ (J155.ge HI0.out);exact bZ_ HB);rintro e w10 ⟨rfl,hi,hb,hk⟩;refine ⟨_,rfl,?_⟩;have n0_:=aM_ (KeepBut.trans (by exact eZ_ HK) hk (.inl rfl));have n1_:=aM_ (hb);have n2_:=aM_ (hi);clear HK;clear HB;clear HI0;have HK:=n0_;have HB:=n1_;have HI0:=n2_;clear n0_ n1_ n2_;(try clear hb);(try clear hb2);(try clear hk);(try clear hi)) | ((with_reducible refine gate_dst (N:=10) rfl ?_);refine Kd.R_lit k116 _ 116 ?hg (N:=10) ?hd (xs:=([(⟨t656,t657,t658⟩ : S116)] : List (S116))) (inner:=[.int .i64 t656,.int .i64 t657,.string t658]) (ok:=fun _=>True) (okp:=fun _=>True) ?hr ?hp (fun _ hk=>hk) trivial (Below.refl _ _) (Nat.le_refl _) (by simp) ?_;(case hd=>rfl);(case hg=>rfl);(case hr=>first | (go_simp;done) | (go_simp;rfl));(case hp=>exact (Reps.c3 (show Kd.M k116 _ _ _ (⟨t656,t657,t658⟩ : S116) [.int .i64 t656,.int .i64 t657,.string t658] from (k116_mkM _ _ _ (⟨t656,t657,t658⟩ : S116) )) (Reps.none _ _)));intro v662 w11 ho12 hb hg_ hnew_;clear hg_ hnew_;(first | rw [← Ny661.out] at ho12 | (simp only [Int.reduceToNat] at ho12;rw [← Ny661.out] at ho12));have n0_:=aM_ (Kd.R_lower ho12 (keep_size (w:=w) (g:=g) (row:=none) (by exact eZ_ HK)));have n1_:=aM_ (J155.below (by repeat first | exact J155.z HI0 | apply J155.set_1 | apply J155.set_2 | refine J155.y ?_) hb);have n2_:=aM_ (KeepBut.trans (by exact eZ_ HK) (KeepBut.of_below hb g none) (.inl rfl));have n3_:=aM_ (bT_ (by have e0_:=aM_ (J155.ge HI0.out);exact bZ_ HB) hb);clear HI0;clear HK;clear HB;have HO663:=n0_;have HI0:=n1_;have HK:=n2_;have HB:=n3_;clear n0_ n1_ n2_ n3_;clear hb ho12))
  go_ret
  exact ⟨_,by first | rfl | (simp [errW_none,errW_some] <;> rfl) | (simp [*, errW_none,errW_some] <;> rfl),by exact rZ_ HO663,by repeat first | exact J155.z HI0 | apply J155.set_1 | apply J155.set_2 | refine J155.y ?_,by have e0_:=aM_ (J155.ge HI0.out);exact bZ_ HB,by exact eZ_ HK⟩
end Go.Proofs.Ytllgmgpfdnofmaa.PFnRowsRead
