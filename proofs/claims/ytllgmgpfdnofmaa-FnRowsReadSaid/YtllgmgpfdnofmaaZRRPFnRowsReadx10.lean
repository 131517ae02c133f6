import Derived.Test.YtllgmgpfdnofmaaZRRPFnRowsReadx0
import Derived.Test.YtllgmgpfdnofmaaZRRPFnRowsReadx7
import Derived.Test.YtllgmgpfdnofmaaZRRPFnRowsReadx8
import Derived.Test.YtllgmgpfdnofmaaZRRPFnRowsReadx9
namespace Go.Proofs.Ytllgmgpfdnofmaa.PFnRowsRead
open Go.RowKit Go.Proofs.YtllgmgpfdnofmaaW.PrintWords Go.Proofs.YtllgmgpfdnofmaaW.PrintLast Go.Proofs.YtllgmgpfdnofmaaW.PrintMore Go.Proofs.Ytllgmgpfdnofmaa.Xtra
attribute [local go_sem] max2_int min2_int max_two min_two max_three min_three max_four min_four str_leq str_gtr str_geq setCell_drewN cell_set2 cell_set3   -- for this text's walks alone
set_option linter.unusedVariables false
set_option linter.unusedSimpArgs false
def spec_l7Val.j0 : Nat → List Int → Int → Bool → Bool → Int → Bool → Int → Int → ByteArray → Option (Int × Int × ByteArray × Int × Bool)
 | 0,_,_,_,_,_,_,_,_,_=>none
 | k + 1,x0,x8,x9,x11,x21,x22,x366000,x366001,x366002=>if x22 = true then ((spec_GetVar.f k x0 x8).bind fun bt366=>(if x9 = true then (some (x366000,bt366.1,x366002,bt366.2.1,bt366.2.2)) else (some (x366000,bt366.1,x366002,bt366.2.1,false)))) else (if x21 = 3 then ((spec_GetText.f k x0 x8).bind fun bt369=>(if x9 = true then (some (x366000,x366001,bt369.1,bt369.2.1,bt369.2.2)) else (some (x366000,x366001,bt369.1,bt369.2.1,false)))) else (if x21 = 4 then (if x8 < (x0.length : Int) then (if 0 ≤ x8 then (if x9 = true then (some (x366000,wrap64 (rd x0 x8),x366002,wrap64 (x8 + 1),decide (x8 < (x0.length : Int)))) else (some (x366000,wrap64 (rd x0 x8),x366002,wrap64 (x8 + 1),false))) else (none)) else (if x9 = true then (some (x366000,x366001,x366002,x8,decide (x8 < (x0.length : Int)))) else (some (x366000,x366001,x366002,x8,false)))) else (if x9 = true then (some (x366000,x366001,x366002,x8,x11)) else (some (x366000,x366001,x366002,x8,false)))))
def spec_l7Val.f (k : Nat) (l0 : List Int) (a1 : Int) : Option (Int × Int × ByteArray × Int × Bool):=(spec_GetU.f k l0 a1).bind fun bt362=>(if bt362.1 = 1 then (spec_l7Val.j0 k l0 bt362.2.1 bt362.2.2 true bt362.1 (bt362.1 == 1) bt362.1 0 (⟨#[]⟩ : ByteArray)) else (spec_l7Val.j0 k l0 bt362.2.1 bt362.2.2 true bt362.1 (bt362.1 == 2) bt362.1 0 (⟨#[]⟩ : ByteArray)))
theorem spec_l7Val.mono_l : ∀ k,(∀ y0 y1 y2 y3 y4 y5 y6 y7 y8,LeO (spec_l7Val.j0 k y0 y1 y2 y3 y4 y5 y6 y7 y8) (spec_l7Val.j0 (k + 1) y0 y1 y2 y3 y4 y5 y6 y7 y8))
 | 0=>fun _ _ _ _ _ _ _ _ _ r h=>by simp [spec_l7Val.j0] at h
 | k + 1=>by
  have ih0:=spec_l7Val.mono_l k
  ·intro y0 y1 y2 y3 y4 y5 y6 y7 y8
   unfold spec_l7Val.j0
   repeat' first
   | (with_reducible exact ih0 _ _ _ _ _ _ _ _ _)
   | (with_reducible exact spec_GetText.mono _ _ _)
   | (with_reducible exact spec_GetU.mono _ _ _)
   | (with_reducible exact spec_GetVar.mono _ _ _)
   | (with_reducible exact LeO.refl _)
   | (with_reducible exact LeO.none _)
   | (with_reducible refine LeO.ite ?_ ?_)
   | (with_reducible refine LeO.bind ?_ (fun _=>?_))
   | exact ih0 _ _ _ _ _ _ _ _ _
   | exact spec_GetText.mono _ _ _
   | exact spec_GetU.mono _ _ _
   | exact spec_GetVar.mono _ _ _
   | exact LeO.none _
   | refine LeO.ite ?_ ?_
   | refine LeO.bind ?_ (fun _=>?_)
theorem spec_l7Val.mono : ∀ a0 a1 k,LeO (spec_l7Val.f k a0 a1) (spec_l7Val.f (k + 1) a0 a1):=by
 intro a0 a1 k
 have ih0:=spec_l7Val.mono_l k
 unfold spec_l7Val.f
 repeat' first
   | (with_reducible exact ih0 _ _ _ _ _ _ _ _ _)
   | (with_reducible exact spec_GetText.mono _ _ _)
   | (with_reducible exact spec_GetU.mono _ _ _)
   | (with_reducible exact spec_GetVar.mono _ _ _)
   | (with_reducible exact LeO.refl _)
   | (with_reducible exact LeO.none _)
   | (with_reducible refine LeO.ite ?_ ?_)
   | (with_reducible refine LeO.bind ?_ (fun _=>?_))
   | exact ih0 _ _ _ _ _ _ _ _ _
   | exact spec_GetText.mono _ _ _
   | exact spec_GetU.mono _ _ _
   | exact spec_GetVar.mono _ _ _
   | exact LeO.none _
   | refine LeO.ite ?_ ?_
   | refine LeO.bind ?_ (fun _=>?_)
set_option maxHeartbeats 8000000 in
set_option maxRecDepth 100000 in
theorem spec_l7Val.calls (k : Nat) (A0 : Option Addr) (c0 : Nat) (l0 : List Int) (a1 : Int) (r1 : Int) (r2 : Int) (r3 : ByteArray) (r4 : Int) (r5 : Bool) (w : World) (hr0 : Kd.C (Kd.int .u8) w A0 l0.length l0) (hc0 : l0.length ≤ c0) (h : spec_l7Val.f k l0 a1 = some (r1,r2,r3,r4,r5)) :
  Calls Try.prog 118 #[.slice A0 l0.length c0,.int .i64 a1] w fun e w'=>e = .returned (.tuple #[.agg #[.int .i64 r1,.int .i64 r2,.string r3],.int .i64 r4,.bool r5]) ∧ Below w.heap.size w w':=by
 have hu116:=Try.underlying116
 have HR0:=aM_ hr0
 have HC0:=aM_ hc0
 clear hr0 hc0
 have HB:=aM_ (Below.refl w.heap.size w)
 have H : ((spec_GetU.f k l0 a1).bind fun bt362=>(if bt362.1 = 1 then (spec_l7Val.j0 k l0 bt362.2.1 bt362.2.2 true bt362.1 (bt362.1 == 1) bt362.1 0 (⟨#[]⟩ : ByteArray)) else (spec_l7Val.j0 k l0 bt362.2.1 bt362.2.2 true bt362.1 (bt362.1 == 2) bt362.1 0 (⟨#[]⟩ : ByteArray)))) = some (r1,r2,r3,r4,r5):=h
 clear h
 replace H:=oB_ H
 obtain ⟨⟨t362,t363,t364⟩,A30,H⟩:=H
 replace H : (if t362 = 1 then (spec_l7Val.j0 k l0 t363 t364 true t362 (t362 == 1) t362 0 (⟨#[]⟩ : ByteArray)) else (spec_l7Val.j0 k l0 t363 t364 true t362 (t362 == 2) t362 0 (⟨#[]⟩ : ByteArray))) = some (r1,r2,r3,r4,r5):=H
 have A3:=aM_ A30
 clear A30
 have HC4:=aM_ H
 clear H
 go_enter Try.func118,Try.ntmps118
 go_upto_if 22 with (first | ((with_reducible refine gate_dst (N:=4) rfl ?_);refine box_event ?hg (N:=4) ?hd (cs:=#[.int .i64 0,.int .i64 0,.string (⟨#[]⟩ : ByteArray)]) (t:=116) ?hr ?_;(case hd=>rfl);(case hg=>rfl);(case hr=>first | (go_simp;done) | (go_simp;rfl));intro gb361 hg w5 hbox hb;have n0_:=aM_ (bT_ (by exact bZ_ HB) hb);have n1_:=aM_ (hbox);have n2_:=aM_ ((by rw [hg];exact (bS_ (by exact bZ_ HB)) : w.heap.size ≤ gb361));have n3_:=aM_ ((by rw [hg];exact (bS_ (by exact bZ_ HB)) : w.heap.size ≤ gb361));clear HB;have HB:=n0_;have BK361:=n1_;have GW361:=n2_;have GE361:=n3_;clear n0_ n1_ n2_ n3_;clear hb hbox hg) | ((with_reducible refine gate_callee (f:=117) rfl ?_);refine goesL_ (some 15) rfl rfl Try.func117 (by kernel_rfl) rfl #[.slice A0 l0.length c0,.int .i64 a1] rfl (by (try simp only [mA_,mC_,mN_]);first | done | rfl | (simp only [lD_,lT_];rfl)) ?_;(with_reducible refine (spec_GetU.calls k _ _ l0 a1 t362 t363 t364 _ ?side1 ?side2 A3.out).mono ?_);(case side1=>repeat (first | exact (Kd.C_below HR0.out HB.out) | (with_reducible refine cA_ ?_ _) | (with_reducible refine cN_ ?_ _) | (with_reducible refine cD_ ?_)));(case side2=>exact HC0.out);rintro e w' ⟨rfl,⟨nd,rfl⟩⟩;refine ⟨_,rfl,?_⟩;(try (rw [drewN_self w5];generalize hq_ : World.drewN w5 _ = w5;have n0_ : Aside0 (w5.heap[gb361]? = some (.cells #[.int .i64 0,.int .i64 0,.string (⟨#[]⟩ : ByteArray)] 116 (0,0))):=⟨by rw [← hq_];exact (by exact kZ_ BK361)⟩;have n1_ : Aside0 (Below w.heap.size w w5):=⟨by rw [← hq_];exact (by exact bZ_ HB)⟩;clear BK361 HB hq_;have BK361:=n0_;have HB:=n1_;clear n0_ n1_))) | ((with_reducible refine gate_dst (N:=10) rfl ?_);refine box_event ?hg (N:=10) ?hd (cs:=#[.int .i64 0,.int .i64 0,.string (⟨#[]⟩ : ByteArray)]) (t:=116) ?hr ?_;(case hd=>rfl);(case hg=>rfl);(case hr=>first | (go_simp;done) | (go_simp;rfl));intro gb365 hg w6 hbox hb;have n0_:=aM_ (blk_below (g:=gb361) (o:=.cells #[.int .i64 0,.int .i64 0,.string (⟨#[]⟩ : ByteArray)] 116 (0,0)) (by exact kZ_ BK361) hb);have n1_:=aM_ (bT_ (by exact bZ_ HB) hb);have n2_:=aM_ (hbox);have n3_:=aM_ ((by rw [hg];exact (bS_ (by exact bZ_ HB)) : w.heap.size ≤ gb365));have n4_:=aM_ ((by rw [hg];exact (bS_ (by exact bZ_ HB)) : w.heap.size ≤ gb365));have n5_:=aM_ ((by rw [hg];exact nN_ (blk_lt (g:=gb361) (o:=.cells #[.int .i64 0,.int .i64 0,.string (⟨#[]⟩ : ByteArray)] 116 (0,0)) (by exact kZ_ BK361)) : gb361 ≠ gb365));have n6_:=aM_ ((by rw [hg];exact Nat.ne_of_gt (blk_lt (g:=gb361) (o:=.cells #[.int .i64 0,.int .i64 0,.string (⟨#[]⟩ : ByteArray)] 116 (0,0)) (by exact kZ_ BK361)) : gb365 ≠ gb361));clear BK361;clear HB;have BK361:=n0_;have HB:=n1_;have BK365:=n2_;have GW365:=n3_;have GE365:=n4_;have NB361_365:=n5_;have NB365_361:=n6_;clear n0_ n1_ n2_ n3_ n4_ n5_ n6_;clear hb hbox hg;have hnb7:=NB365_361.out;have hnc7:=NB361_365.out;have hcz8_0 : w6.cell? ⟨gb365,0,none⟩ = some (.int .i64 0):=(kC_ BK365.out 0).trans rfl;have hcz8_1 : w6.cell? ⟨gb365,1,none⟩ = some (.int .i64 0):=(kC_ BK365.out 1).trans rfl;have hcz8_2 : w6.cell? ⟨gb365,2,none⟩ = some (.string (⟨#[]⟩ : ByteArray)):=(kC_ BK365.out 2).trans rfl;have hfz8_0:=kF_ BK365.out 0;have hfz8_1:=kF_ BK365.out 1;have hfz8_2:=kF_ BK365.out 2))
 (try simp only [Act.put,sI_,sZ_,sS_])
 go_cut [22] (fun v22 wc=>∃ (kq : Nat) (x22_3 : Bool),v22 = .bool x22_3 ∧ Aside0 (spec_l7Val.j0 kq l0 t363 t364 true t362 x22_3 t362 0 (⟨#[]⟩ : ByteArray) = some (r1,r2,r3,r4,r5)) ∧ Aside0 (kq ≤ k) ∧ Aside0 (wc.heap[gb361]? = some (.cells #[.int .i64 0,.int .i64 0,.string (⟨#[]⟩ : ByteArray)] 116 (0,0))) ∧ Aside0 (wc.heap[gb365]? = some (.cells #[.int .i64 t362,.int .i64 0,.string (⟨#[]⟩ : ByteArray)] 116 (0,0))) ∧ Aside0 (Below w.heap.size w wc))
 case first =>
  have H:=HC4.out
  clear HC4
  by_cases c9 : t362 = 1
  ·rw [if_pos c9] at H
   have c9b0 : (t362 == 1) = true:=beq_iff_eq.mpr c9
   have c9b1 : (t362 != 1) = false:=bne_eq_false_iff_eq.mpr c9
   clear c9
   (first | rw [c9b0] | (simp only [i64_w,i32_w];rw [c9b0]) | skip)
   have H':=aM_ H
   clear H
   go_wp2
   (first | go_meet | (refine Met.intro ?_;go_step;(repeat apply Exists.intro);refine ⟨?rel,?eq⟩;(case eq=>(try simp only [c16b0]);(try simp only [c16b0]);(try simp only [c9b0]);rfl)))
   case rel=>exact ⟨_,((t362 == 1)),(by first | rfl | (simp;done) | (simp [*];done)),H', ⟨by first | omega | exact Nat.le_refl _⟩,⟨by exact kW_ BK361⟩,⟨by (with_reducible repeat (first | refine kN_ ?_ _ | refine kD_ ?_ | refine kA_ ?_ _));refine kP_ (cs:=#[.int .i64 t362,.int .i64 0,.string (⟨#[]⟩ : ByteArray)]) ?_ 2 _ rfl;(with_reducible repeat (first | refine kN_ ?_ _ | refine kD_ ?_ | refine kA_ ?_ _));refine kP_ (cs:=#[.int .i64 t362,.int .i64 0,.string (⟨#[]⟩ : ByteArray)]) ?_ 1 _ rfl;(with_reducible repeat (first | refine kN_ ?_ _ | refine kD_ ?_ | refine kA_ ?_ _));refine kP_ (cs:=#[.int .i64 0,.int .i64 0,.string (⟨#[]⟩ : ByteArray)]) ?_ 0 _ rfl;exact kZ_ BK365⟩,⟨by exact bZ_ HB⟩⟩
  ·rw [if_neg c9] at H
   have c9b0 : (t362 == 1) = false:=beq_eq_false_iff_ne.mpr c9
   have c9b1 : (t362 != 1) = true:=bne_iff_ne.mpr c9
   (first | rw [c9b0] | (simp only [i64_w,i32_w];rw [c9b0]) | skip)
   have H':=aM_ H
   clear H
   go_wp2
   (first | go_meet | (refine Met.intro ?_;go_step;(repeat apply Exists.intro);refine ⟨?rel,?eq⟩;(case eq=>(try simp only [c16b0]);(try simp only [c9b0]);(try simp only [c9b0]);rfl)))
   case rel=>exact ⟨_,((t362 == 2)),(by first | rfl | (simp;done) | (simp [*];done)),H', ⟨by first | omega | exact Nat.le_refl _⟩,⟨by exact kW_ BK361⟩,⟨by (with_reducible repeat (first | refine kN_ ?_ _ | refine kD_ ?_ | refine kA_ ?_ _));refine kP_ (cs:=#[.int .i64 t362,.int .i64 0,.string (⟨#[]⟩ : ByteArray)]) ?_ 2 _ rfl;(with_reducible repeat (first | refine kN_ ?_ _ | refine kD_ ?_ | refine kA_ ?_ _));refine kP_ (cs:=#[.int .i64 t362,.int .i64 0,.string (⟨#[]⟩ : ByteArray)]) ?_ 1 _ rfl;(with_reducible repeat (first | refine kN_ ?_ _ | refine kD_ ?_ | refine kA_ ?_ _));refine kP_ (cs:=#[.int .i64 0,.int .i64 0,.string (⟨#[]⟩ : ByteArray)]) ?_ 0 _ rfl;exact kZ_ BK365⟩,⟨by exact bZ_ HB⟩⟩
 case rest =>
  clear HC4
  try clear c1
  try clear p2
  try clear c7
  try clear c9
  try clear c9b0
  try clear c9b1
  try clear hcz8_0
  try clear hcz8_1
  try clear hcz8_2
  try clear hfz8_0
  try clear hfz8_1
  try clear hfz8_2
  obtain ⟨kq,x22_3,rfl,HA,HJ3,BK361,BK365,HB⟩:=hcut
  cases kq with
  | zero=>exact absurd HA.out (by simp [spec_l7Val.j0])
  | succ kj3 =>
   have H:=HA.out
   clear HA
   simp only [spec_l7Val.j0] at H
   by_cases c10 : x22_3 = true
   ·subst c10
    have H1 : ((spec_GetVar.f kj3 l0 t363).bind fun bt366=>(if t364 = true then (some (t362,bt366.1,(⟨#[]⟩ : ByteArray),bt366.2.1,bt366.2.2)) else (some (t362,bt366.1,(⟨#[]⟩ : ByteArray),bt366.2.1,false)))) = some (r1,r2,r3,r4,r5):=by rw [if_pos rfl] at H;exact H
    clear H
    have H:=H1
    clear H1
    replace H:=oB_ H
    obtain ⟨⟨t366,t367,t368⟩,A110,H⟩:=H
    replace H : (if t364 = true then (some (t362,t366,(⟨#[]⟩ : ByteArray),t367,t368)) else (some (t362,t366,(⟨#[]⟩ : ByteArray),t367,false))) = some (r1,r2,r3,r4,r5):=H
    have A11:=aM_ A110
    clear A110
    by_cases c12 : t364 = true
    ·subst c12
     have H1 : (some (t362,t366,(⟨#[]⟩ : ByteArray),t367,t368)) = some (r1,r2,r3,r4,r5):=by rw [if_pos rfl] at H;exact H
     clear H
     have H:=H1
     clear H1
     simp only [Option.some.injEq,Prod.mk.injEq] at H
     obtain ⟨rfl,rfl,rfl,rfl,rfl⟩:=H
     go_wp2_with (first | ((with_reducible refine gate_callee (f:=166) rfl ?_);refine goesL_ (some 28) rfl rfl Try.func166 (by kernel_rfl) rfl #[.slice A0 l0.length c0,.int .i64 t363] rfl (by (try simp only [mA_,mC_,mN_]);first | done | rfl | (simp only [lD_,lT_];rfl)) ?_;(with_reducible refine (spec_GetVar.calls kj3 _ _ l0 t363 t366 t367 t368 _ ?side1 ?side2 A11.out).mono ?_);(case side1=>repeat (first | exact (Kd.C_below HR0.out HB.out) | (with_reducible refine cA_ ?_ _) | (with_reducible refine cN_ ?_ _) | (with_reducible refine cD_ ?_)));(case side2=>exact HC0.out);rintro e w13 ⟨rfl,hb⟩;refine ⟨_,rfl,?_⟩;have n0_:=aM_ (blk_below (g:=gb361) (o:=.cells #[.int .i64 0,.int .i64 0,.string (⟨#[]⟩ : ByteArray)] 116 (0,0)) (by exact kZ_ BK361) hb);have n1_:=aM_ (blk_below (g:=gb365) (o:=.cells #[.int .i64 t362,.int .i64 0,.string (⟨#[]⟩ : ByteArray)] 116 (0,0)) (by exact kZ_ BK365) hb);have n2_:=aM_ (bT_ (by exact bZ_ HB) hb);clear BK361;clear BK365;clear HB;have BK361:=n0_;have BK365:=n1_;have HB:=n2_;clear n0_ n1_ n2_;(try clear hb);(try clear hb2);(try clear hk);(try clear hi);have hnb14:=NB365_361.out;have hnc14:=NB361_365.out;have hcz15_0 : w13.cell? ⟨gb365,0,none⟩ = some (.int .i64 t362):=(kC_ BK365.out 0).trans rfl;have hcz15_1 : w13.cell? ⟨gb365,1,none⟩ = some (.int .i64 0):=(kC_ BK365.out 1).trans rfl;have hcz15_2 : w13.cell? ⟨gb365,2,none⟩ = some (.string (⟨#[]⟩ : ByteArray)):=(kC_ BK365.out 2).trans rfl;have hfz15_0:=kF_ BK365.out 0;have hfz15_1:=kF_ BK365.out 1;have hfz15_2:=kF_ BK365.out 2;have hcz16_0 : w13.cell? ⟨gb361,0,none⟩ = some (.int .i64 0):=(kC_ BK361.out 0).trans rfl;have hcz16_1 : w13.cell? ⟨gb361,1,none⟩ = some (.int .i64 0):=(kC_ BK361.out 1).trans rfl;have hcz16_2 : w13.cell? ⟨gb361,2,none⟩ = some (.string (⟨#[]⟩ : ByteArray)):=(kC_ BK361.out 2).trans rfl;have hfz16_0:=kF_ BK361.out 0;have hfz16_1:=kF_ BK361.out 1;have hfz16_2:=kF_ BK361.out 2))
     refine bodyPost_ret (results_ctt rfl _ _ gb361 116 #[.int .i64 t362,.int .i64 t366,.string (⟨#[]⟩ : ByteArray)] (0,0) _ rfl (by (with_reducible repeat (first | refine kN_ ?_ _ | refine kD_ ?_ | refine kA_ ?_ _));refine kP_ (cs:=#[.int .i64 t362,.int .i64 t366,.string (⟨#[]⟩ : ByteArray)]) ?_ 2 _ rfl;(with_reducible repeat (first | refine kN_ ?_ _ | refine kD_ ?_ | refine kA_ ?_ _));refine kP_ (cs:=#[.int .i64 t362,.int .i64 0,.string (⟨#[]⟩ : ByteArray)]) ?_ 1 _ rfl;(with_reducible repeat (first | refine kN_ ?_ _ | refine kD_ ?_ | refine kA_ ?_ _));refine kP_ (cs:=#[.int .i64 0,.int .i64 0,.string (⟨#[]⟩ : ByteArray)]) ?_ 0 _ rfl;exact kW_ BK361) Try.underlying116 rfl (by kernel_rfl)) rfl ?_
     exact ⟨by first | rfl | (simp [errW_none,errW_some] <;> rfl) | (simp [*, errW_none,errW_some] <;> rfl),by exact bZ_ HB⟩
    ·replace c12:=Bool.eq_false_iff.mpr c12
     subst c12
     have H1 : (some (t362,t366,(⟨#[]⟩ : ByteArray),t367,false)) = some (r1,r2,r3,r4,r5):=by rw [if_neg (show ¬ (false = true) by decide)] at H;exact H
     clear H
     have H:=H1
     clear H1
     simp only [Option.some.injEq,Prod.mk.injEq] at H
     obtain ⟨rfl,rfl,rfl,rfl,rfl⟩:=H
     go_wp2_with (first | ((with_reducible refine gate_callee (f:=166) rfl ?_);refine goesL_ (some 28) rfl rfl Try.func166 (by kernel_rfl) rfl #[.slice A0 l0.length c0,.int .i64 t363] rfl (by (try simp only [mA_,mC_,mN_]);first | done | rfl | (simp only [lD_,lT_];rfl)) ?_;(with_reducible refine (spec_GetVar.calls kj3 _ _ l0 t363 t366 t367 t368 _ ?side1 ?side2 A11.out).mono ?_);(case side1=>repeat (first | exact (Kd.C_below HR0.out HB.out) | (with_reducible refine cA_ ?_ _) | (with_reducible refine cN_ ?_ _) | (with_reducible refine cD_ ?_)));(case side2=>exact HC0.out);rintro e w17 ⟨rfl,hb⟩;refine ⟨_,rfl,?_⟩;have n0_:=aM_ (blk_below (g:=gb361) (o:=.cells #[.int .i64 0,.int .i64 0,.string (⟨#[]⟩ : ByteArray)] 116 (0,0)) (by exact kZ_ BK361) hb);have n1_:=aM_ (blk_below (g:=gb365) (o:=.cells #[.int .i64 t362,.int .i64 0,.string (⟨#[]⟩ : ByteArray)] 116 (0,0)) (by exact kZ_ BK365) hb);have n2_:=aM_ (bT_ (by exact bZ_ HB) hb);clear BK361;clear BK365;clear HB;have BK361:=n0_;have BK365:=n1_;have HB:=n2_;clear n0_ n1_ n2_;(try clear hb);(try clear hb2);(try clear hk);(try clear hi);have hnb18:=NB365_361.out;have hnc18:=NB361_365.out;have hcz19_0 : w17.cell? ⟨gb365,0,none⟩ = some (.int .i64 t362):=(kC_ BK365.out 0).trans rfl;have hcz19_1 : w17.cell? ⟨gb365,1,none⟩ = some (.int .i64 0):=(kC_ BK365.out 1).trans rfl;have hcz19_2 : w17.cell? ⟨gb365,2,none⟩ = some (.string (⟨#[]⟩ : ByteArray)):=(kC_ BK365.out 2).trans rfl;have hfz19_0:=kF_ BK365.out 0;have hfz19_1:=kF_ BK365.out 1;have hfz19_2:=kF_ BK365.out 2;have hcz20_0 : w17.cell? ⟨gb361,0,none⟩ = some (.int .i64 0):=(kC_ BK361.out 0).trans rfl;have hcz20_1 : w17.cell? ⟨gb361,1,none⟩ = some (.int .i64 0):=(kC_ BK361.out 1).trans rfl;have hcz20_2 : w17.cell? ⟨gb361,2,none⟩ = some (.string (⟨#[]⟩ : ByteArray)):=(kC_ BK361.out 2).trans rfl;have hfz20_0:=kF_ BK361.out 0;have hfz20_1:=kF_ BK361.out 1;have hfz20_2:=kF_ BK361.out 2))
     refine bodyPost_ret (results_ctt rfl _ _ gb361 116 #[.int .i64 t362,.int .i64 t366,.string (⟨#[]⟩ : ByteArray)] (0,0) _ rfl (by (with_reducible repeat (first | refine kN_ ?_ _ | refine kD_ ?_ | refine kA_ ?_ _));refine kP_ (cs:=#[.int .i64 t362,.int .i64 t366,.string (⟨#[]⟩ : ByteArray)]) ?_ 2 _ rfl;(with_reducible repeat (first | refine kN_ ?_ _ | refine kD_ ?_ | refine kA_ ?_ _));refine kP_ (cs:=#[.int .i64 t362,.int .i64 0,.string (⟨#[]⟩ : ByteArray)]) ?_ 1 _ rfl;(with_reducible repeat (first | refine kN_ ?_ _ | refine kD_ ?_ | refine kA_ ?_ _));refine kP_ (cs:=#[.int .i64 0,.int .i64 0,.string (⟨#[]⟩ : ByteArray)]) ?_ 0 _ rfl;exact kW_ BK361) Try.underlying116 rfl (by kernel_rfl)) rfl ?_
     exact ⟨by first | rfl | (simp [errW_none,errW_some] <;> rfl) | (simp [*, errW_none,errW_some] <;> rfl),by exact bZ_ HB⟩
   ·replace c10:=Bool.eq_false_iff.mpr c10
    subst c10
    have H1 : (if t362 = 3 then ((spec_GetText.f kj3 l0 t363).bind fun bt369=>(if t364 = true then (some (t362,0,bt369.1,bt369.2.1,bt369.2.2)) else (some (t362,0,bt369.1,bt369.2.1,false)))) else (if t362 = 4 then (if t363 < (l0.length : Int) then (if 0 ≤ t363 then (if t364 = true then (some (t362,wrap64 (rd l0 t363),(⟨#[]⟩ : ByteArray),wrap64 (t363 + 1),decide (t363 < (l0.length : Int)))) else (some (t362,wrap64 (rd l0 t363),(⟨#[]⟩ : ByteArray),wrap64 (t363 + 1),false))) else (none)) else (if t364 = true then (some (t362,0,(⟨#[]⟩ : ByteArray),t363,decide (t363 < (l0.length : Int)))) else (some (t362,0,(⟨#[]⟩ : ByteArray),t363,false)))) else (if t364 = true then (some (t362,0,(⟨#[]⟩ : ByteArray),t363,true)) else (some (t362,0,(⟨#[]⟩ : ByteArray),t363,false))))) = some (r1,r2,r3,r4,r5):=by rw [if_neg (show ¬ (false = true) by decide)] at H;exact H
    clear H
    have H:=H1
    clear H1
    by_cases c21 : t362 = 3
    ·rw [if_pos c21] at H
     have c21b0 : (t362 == 3) = true:=beq_iff_eq.mpr c21
     have c21b1 : (t362 != 3) = false:=bne_eq_false_iff_eq.mpr c21
     clear c21
     replace H:=oB_ H
     obtain ⟨⟨t369,t370,t371⟩,A220,H⟩:=H
     replace H : (if t364 = true then (some (t362,0,t369,t370,t371)) else (some (t362,0,t369,t370,false))) = some (r1,r2,r3,r4,r5):=H
     have A22:=aM_ A220
     clear A220
     by_cases c23 : t364 = true
     ·subst c23
      have H1 : (some (t362,0,t369,t370,t371)) = some (r1,r2,r3,r4,r5):=by rw [if_pos rfl] at H;exact H
      clear H
      have H:=H1
      clear H1
      simp only [Option.some.injEq,Prod.mk.injEq] at H
      obtain ⟨rfl,rfl,rfl,rfl,rfl⟩:=H
      go_wp2_with (first | ((with_reducible refine gate_callee (f:=144) rfl ?_);refine goesL_ (some 38) rfl rfl Try.func144 (by kernel_rfl) rfl #[.slice A0 l0.length c0,.int .i64 t363] rfl (by (try simp only [mA_,mC_,mN_]);first | done | rfl | (simp only [lD_,lT_];rfl)) ?_;(with_reducible refine (spec_GetText.calls kj3 _ _ l0 t363 t369 t370 t371 _ ?side1 ?side2 A22.out).mono ?_);(case side1=>repeat (first | exact (Kd.C_below HR0.out HB.out) | (with_reducible refine cA_ ?_ _) | (with_reducible refine cN_ ?_ _) | (with_reducible refine cD_ ?_)));(case side2=>exact HC0.out);rintro e w' ⟨rfl,⟨nd,rfl⟩⟩;refine ⟨_,rfl,?_⟩;(try (rw [drewN_self wc];generalize hq_ : World.drewN wc _ = wc;have n0_ : Aside0 (wc.heap[gb361]? = some (.cells #[.int .i64 0,.int .i64 0,.string (⟨#[]⟩ : ByteArray)] 116 (0,0))):=⟨by rw [← hq_];exact (by exact kZ_ BK361)⟩;have n1_ : Aside0 (wc.heap[gb365]? = some (.cells #[.int .i64 t362,.int .i64 0,.string (⟨#[]⟩ : ByteArray)] 116 (0,0))):=⟨by rw [← hq_];exact (by exact kZ_ BK365)⟩;have n2_ : Aside0 (Below w.heap.size w wc):=⟨by rw [← hq_];exact (by exact bZ_ HB)⟩;clear BK361 BK365 HB hq_;have BK361:=n0_;have BK365:=n1_;have HB:=n2_;clear n0_ n1_ n2_));have hnb24:=NB365_361.out;have hnc24:=NB361_365.out;have hcz25_0 : wc.cell? ⟨gb365,0,none⟩ = some (.int .i64 t362):=(kC_ BK365.out 0).trans rfl;have hcz25_1 : wc.cell? ⟨gb365,1,none⟩ = some (.int .i64 0):=(kC_ BK365.out 1).trans rfl;have hcz25_2 : wc.cell? ⟨gb365,2,none⟩ = some (.string (⟨#[]⟩ : ByteArray)):=(kC_ BK365.out 2).trans rfl;have hfz25_0:=kF_ BK365.out 0;have hfz25_1:=kF_ BK365.out 1;have hfz25_2:=kF_ BK365.out 2;have hcz26_0 : wc.cell? ⟨gb361,0,none⟩ = some (.int .i64 0):=(kC_ BK361.out 0).trans rfl;have hcz26_1 : wc.cell? ⟨gb361,1,none⟩ = some (.int .i64 0):=(kC_ BK361.out 1).trans rfl;have hcz26_2 : wc.cell? ⟨gb361,2,none⟩ = some (.string (⟨#[]⟩ : ByteArray)):=(kC_ BK361.out 2).trans rfl;have hfz26_0:=kF_ BK361.out 0;have hfz26_1:=kF_ BK361.out 1;have hfz26_2:=kF_ BK361.out 2))
      refine bodyPost_ret (results_ctt rfl _ _ gb361 116 #[.int .i64 t362,.int .i64 0,.string t369] (0,0) _ rfl (by (with_reducible repeat (first | refine kN_ ?_ _ | refine kD_ ?_ | refine kA_ ?_ _));refine kP_ (cs:=#[.int .i64 t362,.int .i64 0,.string (⟨#[]⟩ : ByteArray)]) ?_ 2 _ rfl;(with_reducible repeat (first | refine kN_ ?_ _ | refine kD_ ?_ | refine kA_ ?_ _));refine kP_ (cs:=#[.int .i64 t362,.int .i64 0,.string (⟨#[]⟩ : ByteArray)]) ?_ 1 _ rfl;(with_reducible repeat (first | refine kN_ ?_ _ | refine kD_ ?_ | refine kA_ ?_ _));refine kP_ (cs:=#[.int .i64 0,.int .i64 0,.string (⟨#[]⟩ : ByteArray)]) ?_ 0 _ rfl;exact kW_ BK361) Try.underlying116 rfl (by kernel_rfl)) rfl ?_
      exact ⟨by first | rfl | (simp [errW_none,errW_some] <;> rfl) | (simp [*, errW_none,errW_some] <;> rfl),by exact bZ_ HB⟩
     ·replace c23:=Bool.eq_false_iff.mpr c23
      subst c23
      have H1 : (some (t362,0,t369,t370,false)) = some (r1,r2,r3,r4,r5):=by rw [if_neg (show ¬ (false = true) by decide)] at H;exact H
      clear H
      have H:=H1
      clear H1
      simp only [Option.some.injEq,Prod.mk.injEq] at H
      obtain ⟨rfl,rfl,rfl,rfl,rfl⟩:=H
      go_wp2_with (first | ((with_reducible refine gate_callee (f:=144) rfl ?_);refine goesL_ (some 38) rfl rfl Try.func144 (by kernel_rfl) rfl #[.slice A0 l0.length c0,.int .i64 t363] rfl (by (try simp only [mA_,mC_,mN_]);first | done | rfl | (simp only [lD_,lT_];rfl)) ?_;(with_reducible refine (spec_GetText.calls kj3 _ _ l0 t363 t369 t370 t371 _ ?side1 ?side2 A22.out).mono ?_);(case side1=>repeat (first | exact (Kd.C_below HR0.out HB.out) | (with_reducible refine cA_ ?_ _) | (with_reducible refine cN_ ?_ _) | (with_reducible refine cD_ ?_)));(case side2=>exact HC0.out);rintro e w' ⟨rfl,⟨nd,rfl⟩⟩;refine ⟨_,rfl,?_⟩;(try (rw [drewN_self wc];generalize hq_ : World.drewN wc _ = wc;have n0_ : Aside0 (wc.heap[gb361]? = some (.cells #[.int .i64 0,.int .i64 0,.string (⟨#[]⟩ : ByteArray)] 116 (0,0))):=⟨by rw [← hq_];exact (by exact kZ_ BK361)⟩;have n1_ : Aside0 (wc.heap[gb365]? = some (.cells #[.int .i64 t362,.int .i64 0,.string (⟨#[]⟩ : ByteArray)] 116 (0,0))):=⟨by rw [← hq_];exact (by exact kZ_ BK365)⟩;have n2_ : Aside0 (Below w.heap.size w wc):=⟨by rw [← hq_];exact (by exact bZ_ HB)⟩;clear BK361 BK365 HB hq_;have BK361:=n0_;have BK365:=n1_;have HB:=n2_;clear n0_ n1_ n2_));have hnb27:=NB365_361.out;have hnc27:=NB361_365.out;have hcz28_0 : wc.cell? ⟨gb365,0,none⟩ = some (.int .i64 t362):=(kC_ BK365.out 0).trans rfl;have hcz28_1 : wc.cell? ⟨gb365,1,none⟩ = some (.int .i64 0):=(kC_ BK365.out 1).trans rfl;have hcz28_2 : wc.cell? ⟨gb365,2,none⟩ = some (.string (⟨#[]⟩ : ByteArray)):=(kC_ BK365.out 2).trans rfl;have hfz28_0:=kF_ BK365.out 0;have hfz28_1:=kF_ BK365.out 1;have hfz28_2:=kF_ BK365.out 2;have hcz29_0 : wc.cell? ⟨gb361,0,none⟩ = some (.int .i64 0):=(kC_ BK361.out 0).trans rfl;have hcz29_1 : wc.cell? ⟨gb361,1,none⟩ = some (.int .i64 0):=(kC_ BK361.out 1).trans rfl;have hcz29_2 : wc.cell? ⟨gb361,2,none⟩ = some (.string (⟨#[]⟩ : ByteArray)):=(kC_ BK361.out 2).trans rfl;have hfz29_0:=kF_ BK361.out 0;have hfz29_1:=kF_ BK361.out 1;have hfz29_2:=kF_ BK361.out 2))
      refine bodyPost_ret (results_ctt rfl _ _ gb361 116 #[.int .i64 t362,.int .i64 0,.string t369] (0,0) _ rfl (by (with_reducible repeat (first | refine kN_ ?_ _ | refine kD_ ?_ | refine kA_ ?_ _));refine kP_ (cs:=#[.int .i64 t362,.int .i64 0,.string (⟨#[]⟩ : ByteArray)]) ?_ 2 _ rfl;(with_reducible repeat (first | refine kN_ ?_ _ | refine kD_ ?_ | refine kA_ ?_ _));refine kP_ (cs:=#[.int .i64 t362,.int .i64 0,.string (⟨#[]⟩ : ByteArray)]) ?_ 1 _ rfl;(with_reducible repeat (first | refine kN_ ?_ _ | refine kD_ ?_ | refine kA_ ?_ _));refine kP_ (cs:=#[.int .i64 0,.int .i64 0,.string (⟨#[]⟩ : ByteArray)]) ?_ 0 _ rfl;exact kW_ BK361) Try.underlying116 rfl (by kernel_rfl)) rfl ?_
      exact ⟨by first | rfl | (simp [errW_none,errW_some] <;> rfl) | (simp [*, errW_none,errW_some] <;> rfl),by exact bZ_ HB⟩
    ·rw [if_neg c21] at H
     have c21b0 : (t362 == 3) = false:=beq_eq_false_iff_ne.mpr c21
     have c21b1 : (t362 != 3) = true:=bne_iff_ne.mpr c21
     by_cases c30 : t362 = 4
     ·rw [if_pos c30] at H
      have c30b0 : (t362 == 4) = true:=beq_iff_eq.mpr c30
      have c30b1 : (t362 != 4) = false:=bne_eq_false_iff_eq.mpr c30
      clear c30
      by_cases c31 : t363 < (l0.length : Int)
      ·rw [if_pos c31] at H
       have c31b0 : decide (t363 < (l0.length : Int)) = true:=decide_eq_true c31
       clear c31
       by_cases c32 : 0 ≤ t363
       ·rw [if_pos c32] at H
        have c32b0 : decide (0 ≤ t363) = true:=decide_eq_true c32
        clear c32
        by_cases c33 : t364 = true
        ·subst c33
         have H1 : (some (t362,wrap64 (rd l0 t363),(⟨#[]⟩ : ByteArray),wrap64 (t363 + 1),decide (t363 < (l0.length : Int)))) = some (r1,r2,r3,r4,r5):=by rw [if_pos rfl] at H;exact H
         clear H
         have H:=H1
         clear H1
         simp only [Option.some.injEq,Prod.mk.injEq] at H
         obtain ⟨rfl,rfl,rfl,rfl,rfl⟩:=H
         have p372 : 0 ≤ (t363 : Int):=oT_ (by first | (with_reducible assumption) | assumption)
         have q372 : t363 < (l0.length : Int):=oT_ (by first | (with_reducible assumption) | assumption)
         obtain ⟨ad372,e372,hx372_0⟩:=Kd.at_int HR0.out t363 p372 q372
         cases e372
         replace hx372_0:=(HB.out.cell (wL_ w _ hx372_0)).trans hx372_0
         replace p372:=eq_true p372
         replace q372:=eq_true q372
         have hnb34:=NB365_361.out
         have hnc34:=NB361_365.out
         have hcz35_0 : wc.cell? ⟨gb365,0,none⟩ = some (.int .i64 t362):=(kC_ BK365.out 0).trans rfl
         have hcz35_1 : wc.cell? ⟨gb365,1,none⟩ = some (.int .i64 0):=(kC_ BK365.out 1).trans rfl
         have hcz35_2 : wc.cell? ⟨gb365,2,none⟩ = some (.string (⟨#[]⟩ : ByteArray)):=(kC_ BK365.out 2).trans rfl
         have hfz35_0:=kF_ BK365.out 0
         have hfz35_1:=kF_ BK365.out 1
         have hfz35_2:=kF_ BK365.out 2
         have hcz36_0 : wc.cell? ⟨gb361,0,none⟩ = some (.int .i64 0):=(kC_ BK361.out 0).trans rfl
         have hcz36_1 : wc.cell? ⟨gb361,1,none⟩ = some (.int .i64 0):=(kC_ BK361.out 1).trans rfl
         have hcz36_2 : wc.cell? ⟨gb361,2,none⟩ = some (.string (⟨#[]⟩ : ByteArray)):=(kC_ BK361.out 2).trans rfl
         have hfz36_0:=kF_ BK361.out 0
         have hfz36_1:=kF_ BK361.out 1
         have hfz36_2:=kF_ BK361.out 2
         go_wp2
         refine bodyPost_ret (results_ctt rfl _ _ gb361 116 #[.int .i64 t362,.int .i64 (wrap64 (rd l0 t363)),.string (⟨#[]⟩ : ByteArray)] (0,0) _ rfl (by (with_reducible repeat (first | refine kN_ ?_ _ | refine kD_ ?_ | refine kA_ ?_ _));refine kP_ (cs:=#[.int .i64 t362,.int .i64 (wrap64 (rd l0 t363)),.string (⟨#[]⟩ : ByteArray)]) ?_ 2 _ rfl;(with_reducible repeat (first | refine kN_ ?_ _ | refine kD_ ?_ | refine kA_ ?_ _));refine kP_ (cs:=#[.int .i64 t362,.int .i64 0,.string (⟨#[]⟩ : ByteArray)]) ?_ 1 _ rfl;(with_reducible repeat (first | refine kN_ ?_ _ | refine kD_ ?_ | refine kA_ ?_ _));refine kP_ (cs:=#[.int .i64 0,.int .i64 0,.string (⟨#[]⟩ : ByteArray)]) ?_ 0 _ rfl;exact kW_ BK361) Try.underlying116 rfl (by kernel_rfl)) rfl ?_
         exact ⟨by first | rfl | (simp [errW_none,errW_some] <;> rfl) | (simp [*, errW_none,errW_some] <;> rfl),by exact bZ_ HB⟩
        ·replace c33:=Bool.eq_false_iff.mpr c33
         subst c33
         have H1 : (some (t362,wrap64 (rd l0 t363),(⟨#[]⟩ : ByteArray),wrap64 (t363 + 1),false)) = some (r1,r2,r3,r4,r5):=by rw [if_neg (show ¬ (false = true) by decide)] at H;exact H
         clear H
         have H:=H1
         clear H1
         simp only [Option.some.injEq,Prod.mk.injEq] at H
         obtain ⟨rfl,rfl,rfl,rfl,rfl⟩:=H
         have p372 : 0 ≤ (t363 : Int):=oT_ (by first | (with_reducible assumption) | assumption)
         have q372 : t363 < (l0.length : Int):=oT_ (by first | (with_reducible assumption) | assumption)
         obtain ⟨ad372,e372,hx372_0⟩:=Kd.at_int HR0.out t363 p372 q372
         cases e372
         replace hx372_0:=(HB.out.cell (wL_ w _ hx372_0)).trans hx372_0
         replace p372:=eq_true p372
         replace q372:=eq_true q372
         have hnb37:=NB365_361.out
         have hnc37:=NB361_365.out
         have hcz38_0 : wc.cell? ⟨gb365,0,none⟩ = some (.int .i64 t362):=(kC_ BK365.out 0).trans rfl
         have hcz38_1 : wc.cell? ⟨gb365,1,none⟩ = some (.int .i64 0):=(kC_ BK365.out 1).trans rfl
         have hcz38_2 : wc.cell? ⟨gb365,2,none⟩ = some (.string (⟨#[]⟩ : ByteArray)):=(kC_ BK365.out 2).trans rfl
         have hfz38_0:=kF_ BK365.out 0
         have hfz38_1:=kF_ BK365.out 1
         have hfz38_2:=kF_ BK365.out 2
         have hcz39_0 : wc.cell? ⟨gb361,0,none⟩ = some (.int .i64 0):=(kC_ BK361.out 0).trans rfl
         have hcz39_1 : wc.cell? ⟨gb361,1,none⟩ = some (.int .i64 0):=(kC_ BK361.out 1).trans rfl
         have hcz39_2 : wc.cell? ⟨gb361,2,none⟩ = some (.string (⟨#[]⟩ : ByteArray)):=(kC_ BK361.out 2).trans rfl
         have hfz39_0:=kF_ BK361.out 0
         have hfz39_1:=kF_ BK361.out 1
         have hfz39_2:=kF_ BK361.out 2
         go_wp2
         refine bodyPost_ret (results_ctt rfl _ _ gb361 116 #[.int .i64 t362,.int .i64 (wrap64 (rd l0 t363)),.string (⟨#[]⟩ : ByteArray)] (0,0) _ rfl (by (with_reducible repeat (first | refine kN_ ?_ _ | refine kD_ ?_ | refine kA_ ?_ _));refine kP_ (cs:=#[.int .i64 t362,.int .i64 (wrap64 (rd l0 t363)),.string (⟨#[]⟩ : ByteArray)]) ?_ 2 _ rfl;(with_reducible repeat (first | refine kN_ ?_ _ | refine kD_ ?_ | refine kA_ ?_ _));refine kP_ (cs:=#[.int .i64 t362,.int .i64 0,.string (⟨#[]⟩ : ByteArray)]) ?_ 1 _ rfl;(with_reducible repeat (first | refine kN_ ?_ _ | refine kD_ ?_ | refine kA_ ?_ _));refine kP_ (cs:=#[.int .i64 0,.int .i64 0,.string (⟨#[]⟩ : ByteArray)]) ?_ 0 _ rfl;exact kW_ BK361) Try.underlying116 rfl (by kernel_rfl)) rfl ?_
         exact ⟨by first | rfl | (simp [errW_none,errW_some] <;> rfl) | (simp [*, errW_none,errW_some] <;> rfl),by exact bZ_ HB⟩
       ·rw [if_neg c32] at H
        exact absurd H (by simp)
      ·rw [if_neg c31] at H
       have c31b0 : decide (t363 < (l0.length : Int)) = false:=decide_eq_false c31
       clear c31
       by_cases c40 : t364 = true
       ·subst c40
        have H1 : (some (t362,0,(⟨#[]⟩ : ByteArray),t363,decide (t363 < (l0.length : Int)))) = some (r1,r2,r3,r4,r5):=by rw [if_pos rfl] at H;exact H
        clear H
        have H:=H1
        clear H1
        simp only [Option.some.injEq,Prod.mk.injEq] at H
        obtain ⟨rfl,rfl,rfl,rfl,rfl⟩:=H
        have hnb41:=NB365_361.out
        have hnc41:=NB361_365.out
        have hcz42_0 : wc.cell? ⟨gb365,0,none⟩ = some (.int .i64 t362):=(kC_ BK365.out 0).trans rfl
        have hcz42_1 : wc.cell? ⟨gb365,1,none⟩ = some (.int .i64 0):=(kC_ BK365.out 1).trans rfl
        have hcz42_2 : wc.cell? ⟨gb365,2,none⟩ = some (.string (⟨#[]⟩ : ByteArray)):=(kC_ BK365.out 2).trans rfl
        have hfz42_0:=kF_ BK365.out 0
        have hfz42_1:=kF_ BK365.out 1
        have hfz42_2:=kF_ BK365.out 2
        have hcz43_0 : wc.cell? ⟨gb361,0,none⟩ = some (.int .i64 0):=(kC_ BK361.out 0).trans rfl
        have hcz43_1 : wc.cell? ⟨gb361,1,none⟩ = some (.int .i64 0):=(kC_ BK361.out 1).trans rfl
        have hcz43_2 : wc.cell? ⟨gb361,2,none⟩ = some (.string (⟨#[]⟩ : ByteArray)):=(kC_ BK361.out 2).trans rfl
        have hfz43_0:=kF_ BK361.out 0
        have hfz43_1:=kF_ BK361.out 1
        have hfz43_2:=kF_ BK361.out 2
        go_wp2
        refine bodyPost_ret (results_ctt rfl _ _ gb361 116 #[.int .i64 t362,.int .i64 0,.string (⟨#[]⟩ : ByteArray)] (0,0) _ rfl (by (with_reducible repeat (first | refine kN_ ?_ _ | refine kD_ ?_ | refine kA_ ?_ _));refine kP_ (cs:=#[.int .i64 t362,.int .i64 0,.string (⟨#[]⟩ : ByteArray)]) ?_ 2 _ rfl;(with_reducible repeat (first | refine kN_ ?_ _ | refine kD_ ?_ | refine kA_ ?_ _));refine kP_ (cs:=#[.int .i64 t362,.int .i64 0,.string (⟨#[]⟩ : ByteArray)]) ?_ 1 _ rfl;(with_reducible repeat (first | refine kN_ ?_ _ | refine kD_ ?_ | refine kA_ ?_ _));refine kP_ (cs:=#[.int .i64 0,.int .i64 0,.string (⟨#[]⟩ : ByteArray)]) ?_ 0 _ rfl;exact kZ_ BK361) Try.underlying116 rfl (by kernel_rfl)) rfl ?_
        exact ⟨by first | rfl | (simp [errW_none,errW_some] <;> rfl) | (simp [*, errW_none,errW_some] <;> rfl),by exact bZ_ HB⟩
       ·replace c40:=Bool.eq_false_iff.mpr c40
        subst c40
        have H1 : (some (t362,0,(⟨#[]⟩ : ByteArray),t363,false)) = some (r1,r2,r3,r4,r5):=by rw [if_neg (show ¬ (false = true) by decide)] at H;exact H
        clear H
        have H:=H1
        clear H1
        simp only [Option.some.injEq,Prod.mk.injEq] at H
        obtain ⟨rfl,rfl,rfl,rfl,rfl⟩:=H
        have hnb44:=NB365_361.out
        have hnc44:=NB361_365.out
        have hcz45_0 : wc.cell? ⟨gb365,0,none⟩ = some (.int .i64 t362):=(kC_ BK365.out 0).trans rfl
        have hcz45_1 : wc.cell? ⟨gb365,1,none⟩ = some (.int .i64 0):=(kC_ BK365.out 1).trans rfl
        have hcz45_2 : wc.cell? ⟨gb365,2,none⟩ = some (.string (⟨#[]⟩ : ByteArray)):=(kC_ BK365.out 2).trans rfl
        have hfz45_0:=kF_ BK365.out 0
        have hfz45_1:=kF_ BK365.out 1
        have hfz45_2:=kF_ BK365.out 2
        have hcz46_0 : wc.cell? ⟨gb361,0,none⟩ = some (.int .i64 0):=(kC_ BK361.out 0).trans rfl
        have hcz46_1 : wc.cell? ⟨gb361,1,none⟩ = some (.int .i64 0):=(kC_ BK361.out 1).trans rfl
        have hcz46_2 : wc.cell? ⟨gb361,2,none⟩ = some (.string (⟨#[]⟩ : ByteArray)):=(kC_ BK361.out 2).trans rfl
        have hfz46_0:=kF_ BK361.out 0
        have hfz46_1:=kF_ BK361.out 1
        have hfz46_2:=kF_ BK361.out 2
        go_wp2
        refine bodyPost_ret (results_ctt rfl _ _ gb361 116 #[.int .i64 t362,.int .i64 0,.string (⟨#[]⟩ : ByteArray)] (0,0) _ rfl (by (with_reducible repeat (first | refine kN_ ?_ _ | refine kD_ ?_ | refine kA_ ?_ _));refine kP_ (cs:=#[.int .i64 t362,.int .i64 0,.string (⟨#[]⟩ : ByteArray)]) ?_ 2 _ rfl;(with_reducible repeat (first | refine kN_ ?_ _ | refine kD_ ?_ | refine kA_ ?_ _));refine kP_ (cs:=#[.int .i64 t362,.int .i64 0,.string (⟨#[]⟩ : ByteArray)]) ?_ 1 _ rfl;(with_reducible repeat (first | refine kN_ ?_ _ | refine kD_ ?_ | refine kA_ ?_ _));refine kP_ (cs:=#[.int .i64 0,.int .i64 0,.string (⟨#[]⟩ : ByteArray)]) ?_ 0 _ rfl;exact kZ_ BK361) Try.underlying116 rfl (by kernel_rfl)) rfl ?_
        exact ⟨by first | rfl | (simp [errW_none,errW_some] <;> rfl) | (simp [*, errW_none,errW_some] <;> rfl),by exact bZ_ HB⟩
     ·rw [if_neg c30] at H
      have c30b0 : (t362 == 4) = false:=beq_eq_false_iff_ne.mpr c30
      have c30b1 : (t362 != 4) = true:=bne_iff_ne.mpr c30
      by_cases c47 : t364 = true
      ·subst c47
       have H1 : (some (t362,0,(⟨#[]⟩ : ByteArray),t363,true)) = some (r1,r2,r3,r4,r5):=by rw [if_pos rfl] at H;exact H
       clear H
       have H:=H1
       clear H1
       simp only [Option.some.injEq,Prod.mk.injEq] at H
       obtain ⟨rfl,rfl,rfl,rfl,rfl⟩:=H
       have hnb48:=NB365_361.out
       have hnc48:=NB361_365.out
       have hcz49_0 : wc.cell? ⟨gb365,0,none⟩ = some (.int .i64 t362):=(kC_ BK365.out 0).trans rfl
       have hcz49_1 : wc.cell? ⟨gb365,1,none⟩ = some (.int .i64 0):=(kC_ BK365.out 1).trans rfl
       have hcz49_2 : wc.cell? ⟨gb365,2,none⟩ = some (.string (⟨#[]⟩ : ByteArray)):=(kC_ BK365.out 2).trans rfl
       have hfz49_0:=kF_ BK365.out 0
       have hfz49_1:=kF_ BK365.out 1
       have hfz49_2:=kF_ BK365.out 2
       have hcz50_0 : wc.cell? ⟨gb361,0,none⟩ = some (.int .i64 0):=(kC_ BK361.out 0).trans rfl
       have hcz50_1 : wc.cell? ⟨gb361,1,none⟩ = some (.int .i64 0):=(kC_ BK361.out 1).trans rfl
       have hcz50_2 : wc.cell? ⟨gb361,2,none⟩ = some (.string (⟨#[]⟩ : ByteArray)):=(kC_ BK361.out 2).trans rfl
       have hfz50_0:=kF_ BK361.out 0
       have hfz50_1:=kF_ BK361.out 1
       have hfz50_2:=kF_ BK361.out 2
       go_wp2
       refine bodyPost_ret (results_ctt rfl _ _ gb361 116 #[.int .i64 t362,.int .i64 0,.string (⟨#[]⟩ : ByteArray)] (0,0) _ rfl (by (with_reducible repeat (first | refine kN_ ?_ _ | refine kD_ ?_ | refine kA_ ?_ _));refine kP_ (cs:=#[.int .i64 t362,.int .i64 0,.string (⟨#[]⟩ : ByteArray)]) ?_ 2 _ rfl;(with_reducible repeat (first | refine kN_ ?_ _ | refine kD_ ?_ | refine kA_ ?_ _));refine kP_ (cs:=#[.int .i64 t362,.int .i64 0,.string (⟨#[]⟩ : ByteArray)]) ?_ 1 _ rfl;(with_reducible repeat (first | refine kN_ ?_ _ | refine kD_ ?_ | refine kA_ ?_ _));refine kP_ (cs:=#[.int .i64 0,.int .i64 0,.string (⟨#[]⟩ : ByteArray)]) ?_ 0 _ rfl;exact kZ_ BK361) Try.underlying116 rfl (by kernel_rfl)) rfl ?_
       exact ⟨by first | rfl | (simp [errW_none,errW_some] <;> rfl) | (simp [*, errW_none,errW_some] <;> rfl),by exact bZ_ HB⟩
      ·replace c47:=Bool.eq_false_iff.mpr c47
       subst c47
       have H1 : (some (t362,0,(⟨#[]⟩ : ByteArray),t363,false)) = some (r1,r2,r3,r4,r5):=by rw [if_neg (show ¬ (false = true) by decide)] at H;exact H
       clear H
       have H:=H1
       clear H1
       simp only [Option.some.injEq,Prod.mk.injEq] at H
       obtain ⟨rfl,rfl,rfl,rfl,rfl⟩:=H
       have hnb51:=NB365_361.out
       have hnc51:=NB361_365.out
       have hcz52_0 : wc.cell? ⟨gb365,0,none⟩ = some (.int .i64 t362):=(kC_ BK365.out 0).trans rfl
       have hcz52_1 : wc.cell? ⟨gb365,1,none⟩ = some (.int .i64 0):=(kC_ BK365.out 1).trans rfl
       have hcz52_2 : wc.cell? ⟨gb365,2,none⟩ = some (.string (⟨#[]⟩ : ByteArray)):=(kC_ BK365.out 2).trans rfl
       have hfz52_0:=kF_ BK365.out 0
       have hfz52_1:=kF_ BK365.out 1
       have hfz52_2:=kF_ BK365.out 2
       have hcz53_0 : wc.cell? ⟨gb361,0,none⟩ = some (.int .i64 0):=(kC_ BK361.out 0).trans rfl
       have hcz53_1 : wc.cell? ⟨gb361,1,none⟩ = some (.int .i64 0):=(kC_ BK361.out 1).trans rfl
       have hcz53_2 : wc.cell? ⟨gb361,2,none⟩ = some (.string (⟨#[]⟩ : ByteArray)):=(kC_ BK361.out 2).trans rfl
       have hfz53_0:=kF_ BK361.out 0
       have hfz53_1:=kF_ BK361.out 1
       have hfz53_2:=kF_ BK361.out 2
       go_wp2
       refine bodyPost_ret (results_ctt rfl _ _ gb361 116 #[.int .i64 t362,.int .i64 0,.string (⟨#[]⟩ : ByteArray)] (0,0) _ rfl (by (with_reducible repeat (first | refine kN_ ?_ _ | refine kD_ ?_ | refine kA_ ?_ _));refine kP_ (cs:=#[.int .i64 t362,.int .i64 0,.string (⟨#[]⟩ : ByteArray)]) ?_ 2 _ rfl;(with_reducible repeat (first | refine kN_ ?_ _ | refine kD_ ?_ | refine kA_ ?_ _));refine kP_ (cs:=#[.int .i64 t362,.int .i64 0,.string (⟨#[]⟩ : ByteArray)]) ?_ 1 _ rfl;(with_reducible repeat (first | refine kN_ ?_ _ | refine kD_ ?_ | refine kA_ ?_ _));refine kP_ (cs:=#[.int .i64 0,.int .i64 0,.string (⟨#[]⟩ : ByteArray)]) ?_ 0 _ rfl;exact kZ_ BK361) Try.underlying116 rfl (by kernel_rfl)) rfl ?_
       exact ⟨by first | rfl | (simp [errW_none,errW_some] <;> rfl) | (simp [*, errW_none,errW_some] <;> rfl),by exact bZ_ HB⟩
mutual
def spec_DecodeRow.l0 : Nat → List (S119) → List Int → Bool → Int → Int → Bool → List (S116) → Int → Option ((List (S116)) × Bool)
 | 0,_,_,_,_,_,_,_,_=>none
 | k + 1,x0,x6,x7,x8,x9,x10,x11,x12=>if x7 = true then (if x10 = true then (if x12 < x8 then (spec_DecodeRow.j1 k x0 x6 x7 x8 x9 x10 x11 x12 (decide (x12 < 7))) else (spec_DecodeRow.j1 k x0 x6 x7 x8 x9 x10 x11 x12 false)) else (spec_DecodeRow.j1 k x0 x6 x7 x8 x9 x10 x11 x12 false)) else (spec_DecodeRow.j1 k x0 x6 x7 x8 x9 x10 x11 x12 false)
def spec_DecodeRow.j1 : Nat → List (S119) → List Int → Bool → Int → Int → Bool → List (S116) → Int → Bool → Option ((List (S116)) × Bool)
 | 0,_,_,_,_,_,_,_,_,_=>none
 | k + 1,x0,x6,x7,x8,x9,x10,x11,x12,x40=>if x40 = true then ((spec_l7Val.f k x6 x9).bind fun bt383=>(if bt383.2.2.2.2 = true then (if x11.length < 4398046511104 then (spec_DecodeRow.l0 k x0 x6 x7 x8 bt383.2.2.2.1 x10 (x11 ++ [(⟨bt383.1,bt383.2.1,bt383.2.2.1⟩ : S116)]) (wrap64 (x12 + 1))) else (none)) else (some ((([] : List (S116))),false)))) else (if x7 = true then (if x10 = true then (if x9 = (x6.length : Int) then (if x8 = (x11.length : Int) then ((spec_RowOk.f k x0 x11).bind fun t395=>(if t395 = true then (some (x11,true)) else (some ((([] : List (S116))),false)))) else (some ((([] : List (S116))),false))) else (some ((([] : List (S116))),false))) else (some ((([] : List (S116))),false))) else (some ((([] : List (S116))),false)))
end
def spec_DecodeRow.f (k : Nat) (l0 : List (S119)) (l1 : List Int) : Option ((List (S116)) × Bool):=(spec_GetSum.f k l1).bind fun bt373=>((spec_GetU.f k bt373.1 0).bind fun bt377=>(spec_DecodeRow.l0 k l0 bt373.1 bt373.2 bt377.1 bt377.2.1 bt377.2.2 (([] : List (S116))) 0))
theorem spec_DecodeRow.mono_l : ∀ k,(∀ y0 y1 y2 y3 y4 y5 y6 y7,LeO (spec_DecodeRow.l0 k y0 y1 y2 y3 y4 y5 y6 y7) (spec_DecodeRow.l0 (k + 1) y0 y1 y2 y3 y4 y5 y6 y7)) ∧ (∀ y0 y1 y2 y3 y4 y5 y6 y7 y8,LeO (spec_DecodeRow.j1 k y0 y1 y2 y3 y4 y5 y6 y7 y8) (spec_DecodeRow.j1 (k + 1) y0 y1 y2 y3 y4 y5 y6 y7 y8))
 | 0=>⟨fun _ _ _ _ _ _ _ _ r h=>by simp [spec_DecodeRow.l0] at h,fun _ _ _ _ _ _ _ _ _ r h=>by simp [spec_DecodeRow.j1] at h⟩
 | k + 1=>by
  obtain ⟨ih0,ih1⟩:=spec_DecodeRow.mono_l k
  refine ⟨?_,?_⟩
  ·intro y0 y1 y2 y3 y4 y5 y6 y7
   unfold spec_DecodeRow.l0
   repeat' first
   | (with_reducible exact ih0 _ _ _ _ _ _ _ _)
   | (with_reducible exact ih1 _ _ _ _ _ _ _ _ _)
   | (with_reducible exact spec_GetSum.mono _ _)
   | (with_reducible exact spec_GetU.mono _ _ _)
   | (with_reducible exact spec_RowOk.mono _ _ _)
   | (with_reducible exact spec_l7Val.mono _ _ _)
   | (with_reducible exact LeO.refl _)
   | (with_reducible exact LeO.none _)
   | (with_reducible refine LeO.ite ?_ ?_)
   | (with_reducible refine LeO.bind ?_ (fun _=>?_))
   | exact ih0 _ _ _ _ _ _ _ _
   | exact ih1 _ _ _ _ _ _ _ _ _
   | exact spec_GetSum.mono _ _
   | exact spec_GetU.mono _ _ _
   | exact spec_RowOk.mono _ _ _
   | exact spec_l7Val.mono _ _ _
   | exact LeO.none _
   | refine LeO.ite ?_ ?_
   | refine LeO.bind ?_ (fun _=>?_)
  ·intro y0 y1 y2 y3 y4 y5 y6 y7 y8
   unfold spec_DecodeRow.j1
   repeat' first
   | (with_reducible exact ih0 _ _ _ _ _ _ _ _)
   | (with_reducible exact ih1 _ _ _ _ _ _ _ _ _)
   | (with_reducible exact spec_GetSum.mono _ _)
   | (with_reducible exact spec_GetU.mono _ _ _)
   | (with_reducible exact spec_RowOk.mono _ _ _)
   | (with_reducible exact spec_l7Val.mono _ _ _)
   | (with_reducible exact LeO.refl _)
   | (with_reducible exact LeO.none _)
   | (with_reducible refine LeO.ite ?_ ?_)
   | (with_reducible refine LeO.bind ?_ (fun _=>?_))
   | exact ih0 _ _ _ _ _ _ _ _
   | exact ih1 _ _ _ _ _ _ _ _ _
   | exact spec_GetSum.mono _ _
   | exact spec_GetU.mono _ _ _
   | exact spec_RowOk.mono _ _ _
   | exact spec_l7Val.mono _ _ _
   | exact LeO.none _
   | refine LeO.ite ?_ ?_
   | refine LeO.bind ?_ (fun _=>?_)
theorem spec_DecodeRow.mono : ∀ a0 a1 k,LeO (spec_DecodeRow.f k a0 a1) (spec_DecodeRow.f (k + 1) a0 a1):=by
 intro a0 a1 k
 obtain ⟨ih0,ih1⟩:=spec_DecodeRow.mono_l k
 unfold spec_DecodeRow.f
 repeat' first
   | (with_reducible exact ih0 _ _ _ _ _ _ _ _)
   | (with_reducible exact ih1 _ _ _ _ _ _ _ _ _)
   | (with_reducible exact spec_GetSum.mono _ _)
   | (with_reducible exact spec_GetU.mono _ _ _)
   | (with_reducible exact spec_RowOk.mono _ _ _)
   | (with_reducible exact spec_l7Val.mono _ _ _)
   | (with_reducible exact LeO.refl _)
   | (with_reducible exact LeO.none _)
   | (with_reducible refine LeO.ite ?_ ?_)
   | (with_reducible refine LeO.bind ?_ (fun _=>?_))
   | exact ih0 _ _ _ _ _ _ _ _
   | exact ih1 _ _ _ _ _ _ _ _ _
   | exact spec_GetSum.mono _ _
   | exact spec_GetU.mono _ _ _
   | exact spec_RowOk.mono _ _ _
   | exact spec_l7Val.mono _ _ _
   | exact LeO.none _
   | refine LeO.ite ?_ ?_
   | refine LeO.bind ?_ (fun _=>?_)
set_option maxHeartbeats 8000000 in
set_option maxRecDepth 100000 in
theorem spec_DecodeRow.calls (k : Nat) (A0 : Option Addr) (c0 : Nat) (l0 : List (S119)) (A1 : Option Addr) (c1 : Nat) (l1 : List Int) (r1 : List (S116)) (r2 : Bool) (w : World) (hr0 : Kd.C k119 w A0 l0.length l0) (hc0 : l0.length ≤ c0) (hr1 : Kd.C (Kd.int .u8) w A1 l1.length l1) (hc1 : l1.length ≤ c1) (h : spec_DecodeRow.f k l0 l1 = some (r1,r2)) :
  Calls Try.prog 50 #[.slice A0 l0.length c0,.slice A1 l1.length c1] w fun e w'=>∃ v0_ : Value,e = .returned (.tuple #[v0_,.bool r2]) ∧ Kd.R k116 116 w' w.heap.size (fun _=>True) v0_ r1 ∧ Below w.heap.size w w':=by
 have hu116:=Try.underlying116
 have HR0:=aM_ hr0
 have HC0:=aM_ hc0
 clear hr0 hc0
 have HR1:=aM_ hr1
 have HC1:=aM_ hc1
 clear hr1 hc1
 have HB:=aM_ (Below.refl w.heap.size w)
 have H : ((spec_GetSum.f k l1).bind fun bt373=>((spec_GetU.f k bt373.1 0).bind fun bt377=>(spec_DecodeRow.l0 k l0 bt373.1 bt373.2 bt377.1 bt377.2.1 bt377.2.2 (([] : List (S116))) 0))) = some (r1,r2):=h
 clear h
 replace H:=oB_ H
 obtain ⟨⟨t373,t374⟩,A30,H⟩:=H
 replace H : ((spec_GetU.f k t373 0).bind fun bt377=>(spec_DecodeRow.l0 k l0 t373 t374 bt377.1 bt377.2.1 bt377.2.2 (([] : List (S116))) 0)) = some (r1,r2):=H
 have A3:=aM_ A30
 clear A30
 replace H:=oB_ H
 obtain ⟨⟨t377,t378,t379⟩,A40,H⟩:=H
 replace H : (spec_DecodeRow.l0 k l0 t373 t374 t377 t378 t379 (([] : List (S116))) 0) = some (r1,r2):=H
 have A4:=aM_ A40
 clear A40
 obtain ⟨y380,hy380⟩ : ∃ y_ : List (S116),y_ = (([] : List (S116))):=⟨_,rfl⟩
 replace H : (spec_DecodeRow.l0 k l0 t373 t374 t377 t378 t379 y380 0) = some (r1,r2):=by first | (rw [hy380];with_reducible exact H) | (have H2_:=(Option.bind_some _ _).symm.trans H;rw [hy380];with_reducible exact H2_) | (have H2_:=(Option.bind_some _ _).symm.trans H;with_reducible exact H2_) | with_reducible exact H | (rw [hy380];exact H) | exact H
 have Ny380:=aM_ hy380
 clear hy380
 have H':=aM_ H
 clear H
 go_enter Try.func50,Try.ntmps50
 go_wp2_with (first | ((with_reducible refine gate_callee (f:=116) rfl ?_);refine goesL_ (some 18) rfl rfl Try.func116 (by kernel_rfl) rfl #[.slice A1 l1.length c1] rfl (by (try simp only [mA_,mC_,mN_]);first | done | rfl | (simp only [lD_,lT_];rfl)) ?_;(with_reducible refine (spec_GetSum.calls k _ _ l1 t373 t374 _ ?side1 ?side2 A3.out).mono ?_);(case side1=>repeat (first | exact HR1.out | (with_reducible refine cA_ ?_ _) | (with_reducible refine cN_ ?_ _) | (with_reducible refine cD_ ?_)));(case side2=>exact HC1.out);rintro e w5 ⟨v375,rfl,ho0,hb⟩;refine ⟨_,rfl,?_⟩;have n0_:=aM_ (Kd.R_lower ho0 (bS_ (by exact bZ_ HB)));have n1_:=aM_ (bT_ (by exact bZ_ HB) hb);clear HB;have HO376:=n0_;have HB:=n1_;clear n0_ n1_;(try clear hb);(try clear hb2);(try clear hk);(try clear hi);(try clear ho0);obtain ⟨Ao6,co6,eo6⟩:=Kd.R_slice HO376.out;subst eo6) | ((with_reducible refine gate_callee (f:=117) rfl ?_);refine goesL_ (some 23) rfl rfl Try.func117 (by kernel_rfl) rfl #[.slice Ao6 t373.length co6,.int .i64 0] rfl (by (try simp only [mA_,mC_,mN_]);first | done | rfl | (simp only [lD_,lT_];rfl)) ?_;(with_reducible refine (spec_GetU.calls k _ _ t373 0 t377 t378 t379 _ ?side1 ?side2 A4.out).mono ?_);(case side1=>repeat (first | exact (Kd.R_reads' HO376.out).2.2 | (with_reducible refine cA_ ?_ _) | (with_reducible refine cN_ ?_ _) | (with_reducible refine cD_ ?_)));(case side2=>exact (Kd.R_reads' HO376.out).2.1);rintro e w' ⟨rfl,⟨nd,rfl⟩⟩;refine ⟨_,rfl,?_⟩) | ((with_reducible refine gate_dst (N:=27) rfl ?_);(try (refine gate_guard (by rfl) ?_;dsimp only));refine Kd.R_lit k116 _ 116 ?hg (N:=27) ?hd (xs:=([] : List (S116))) (inner:=[]) (ok:=fun _=>True) (okp:=fun _=>True) ?hr ?hp (fun _ hk=>hk) trivial (Below.refl _ _) (Nat.le_refl _) (by simp) ?_;(case hd=>rfl);(case hg=>rfl);(case hr=>first | (go_simp;done) | (go_simp;rfl));(case hp=>exact (Reps.none _ _));intro v381 w7 ho8 hb hg_ hnew_;clear hg_ hnew_;(first | rw [← Ny380.out] at ho8 | (simp only [Int.reduceToNat] at ho8;rw [← Ny380.out] at ho8));have n0_:=aM_ (Kd.R_below (by exact rZ_ HO376) hb);have n1_:=aM_ (Kd.R_lower ho8 (bS_ (by exact bZ_ HB)));have n2_:=aM_ (bT_ (by exact bZ_ HB) hb);clear HO376;clear HB;have HO376:=n0_;have HO382:=n1_;have HB:=n2_;clear n0_ n1_ n2_;clear hb ho8))
 (try simp only [Act.put,sI_,sS_,sZ_])
 go_loopg [9,11,12] k (fun kq v9 v11 v12 w'=>∃ (x9_1 : Int) (x11_1 : List (S116)) (x12_1 : Int),v9 = .int .i64 x9_1 ∧ v12 = .int .i64 x12_1 ∧ Aside0 (spec_DecodeRow.l0 kq l0 t373 t374 t377 x9_1 t379 x11_1 x12_1 = some (r1,r2)) ∧ Aside0 (kq ≤ k) ∧ Aside0 (Kd.R (Kd.int .u8) 5 w' w.heap.size (fun _=>True) (.slice Ao6 t373.length co6) t373) ∧ Aside0 (Kd.R k116 116 w' w.heap.size (fun _=>True) v11 x11_1) ∧ Aside0 (Below w.heap.size w w'))
 case atStart=>exact ⟨(t378),(y380),(0),(by first | rfl | (simp;done) | (simp [*];done)),(by first | rfl | (simp;done) | (simp [*];done)),H', ⟨Nat.le_refl _⟩,⟨by exact rZ_ HO376⟩,⟨by exact rZ_ HO382⟩,⟨by exact bZ_ HB⟩⟩
 case round =>
  clear H'
  try clear c1
  try clear p2
  try clear c5
  obtain ⟨x9_1,x11_1,x12_1,rfl,rfl,HA,HK1,HO_6,HO_11,HB⟩:=hrel
  cases gk with
  | zero=>exact absurd HA.out (by simp [spec_DecodeRow.l0])
  | succ k1 =>
   have H:=HA.out
   clear HA
   simp only [spec_DecodeRow.l0] at H
   have HC9:=aM_ H
   clear H
   go_upto_region 5 with (fail)
   go_cut [40] (fun v40 wc=>∃ (kq : Nat) (x40_8 : Bool),v40 = .bool x40_8 ∧ Aside0 (spec_DecodeRow.j1 kq l0 t373 t374 t377 x9_1 t379 x11_1 x12_1 x40_8 = some (r1,r2)) ∧ Aside0 (kq ≤ k1) ∧ Aside0 (Kd.R (Kd.int .u8) 5 wc w.heap.size (fun _=>True) (.slice Ao6 t373.length co6) t373) ∧ Aside0 (Kd.R k116 116 wc w.heap.size (fun _=>True) u11 x11_1) ∧ Aside0 (Below w.heap.size w wc))
   case first =>
    have H:=HC9.out
    clear HC9
    by_cases c10 : t374 = true
    ·subst c10
     have H1 : (if t379 = true then (if x12_1 < t377 then (spec_DecodeRow.j1 k1 l0 t373 true t377 x9_1 t379 x11_1 x12_1 (decide (x12_1 < 7))) else (spec_DecodeRow.j1 k1 l0 t373 true t377 x9_1 t379 x11_1 x12_1 false)) else (spec_DecodeRow.j1 k1 l0 t373 true t377 x9_1 t379 x11_1 x12_1 false)) = some (r1,r2):=by rw [if_pos rfl] at H;exact H
     clear H
     have H:=H1
     clear H1
     by_cases c11 : t379 = true
     ·subst c11
      have H1 : (if x12_1 < t377 then (spec_DecodeRow.j1 k1 l0 t373 true t377 x9_1 true x11_1 x12_1 (decide (x12_1 < 7))) else (spec_DecodeRow.j1 k1 l0 t373 true t377 x9_1 true x11_1 x12_1 false)) = some (r1,r2):=by rw [if_pos rfl] at H;exact H
      clear H
      have H:=H1
      clear H1
      by_cases c12 : x12_1 < t377
      ·rw [if_pos c12] at H
       have c12b0 : decide (x12_1 < t377) = true:=decide_eq_true c12
       clear c12
       (first | rw [c12b0] | (simp only [i64_w,i32_w];rw [c12b0]) | skip)
       have H':=aM_ H
       clear H
       go_wp2
       (first | go_meet | (refine Met.intro ?_;go_step;(repeat apply Exists.intro);refine ⟨?rel,?eq⟩;(case eq=>(try simp only [c9b0]);(try simp only [c9b0]);(try simp only [c12b0]);rfl)))
       case rel=>exact ⟨_,(decide (x12_1 < 7)),(by first | rfl | (simp;done) | (simp [*];done)),H', ⟨by have:=HK1.out;first | omega | exact Nat.le_refl _⟩,⟨by exact rZ_ HO_6⟩,⟨by exact rZ_ HO_11⟩,⟨by exact bZ_ HB⟩⟩
      ·rw [if_neg c12] at H
       have c12b0 : decide (x12_1 < t377) = false:=decide_eq_false c12
       clear c12
       (first | rw [c12b0] | (simp only [i64_w,i32_w];rw [c12b0]) | skip)
       have H':=aM_ H
       clear H
       go_wp2
       (first | go_meet | (refine Met.intro ?_;go_step;(repeat apply Exists.intro);refine ⟨?rel,?eq⟩;(case eq=>(try simp only [c9b0]);(try simp only [c12b0]);(try simp only [c12b0]);rfl)))
       case rel=>exact ⟨_,(false),(by first | rfl | (simp;done) | (simp [*];done)),H', ⟨by have:=HK1.out;first | omega | exact Nat.le_refl _⟩,⟨by exact rZ_ HO_6⟩,⟨by exact rZ_ HO_11⟩,⟨by exact bZ_ HB⟩⟩
     ·replace c11:=Bool.eq_false_iff.mpr c11
      subst c11
      have H1 : (spec_DecodeRow.j1 k1 l0 t373 true t377 x9_1 false x11_1 x12_1 false) = some (r1,r2):=by rw [if_neg (show ¬ (false = true) by decide)] at H;exact H
      clear H
      have H:=H1
      clear H1
      have H':=aM_ H
      clear H
      go_wp2
      (first | go_meet | (refine Met.intro ?_;go_step;(repeat apply Exists.intro);refine ⟨?rel,?eq⟩;(case eq=>(try simp only [c9b0]);(try simp only [c12b0]);(try simp only [c12b0]);rfl)))
      case rel=>exact ⟨_,(false),(by first | rfl | (simp;done) | (simp [*];done)),H', ⟨by have:=HK1.out;first | omega | exact Nat.le_refl _⟩,⟨by exact rZ_ HO_6⟩,⟨by exact rZ_ HO_11⟩,⟨by exact bZ_ HB⟩⟩
    ·replace c10:=Bool.eq_false_iff.mpr c10
     subst c10
     have H1 : (spec_DecodeRow.j1 k1 l0 t373 false t377 x9_1 t379 x11_1 x12_1 false) = some (r1,r2):=by rw [if_neg (show ¬ (false = true) by decide)] at H;exact H
     clear H
     have H:=H1
     clear H1
     have H':=aM_ H
     clear H
     go_wp2
     (first | go_meet | (refine Met.intro ?_;go_step;(repeat apply Exists.intro);refine ⟨?rel,?eq⟩;(case eq=>(try simp only [c9b0]);(try simp only [c12b0]);(try simp only [c12b0]);rfl)))
     case rel=>exact ⟨_,(false),(by first | rfl | (simp;done) | (simp [*];done)),H', ⟨by have:=HK1.out;first | omega | exact Nat.le_refl _⟩,⟨by exact rZ_ HO_6⟩,⟨by exact rZ_ HO_11⟩,⟨by exact bZ_ HB⟩⟩
   case rest =>
    clear HC9
    try clear c1
    try clear p2
    try clear c5
    try clear c9
    try clear c9b0
    try clear c10
    try clear c11
    try clear c12
    try clear c12b0
    try clear p2
    obtain ⟨kq,x40_8,rfl,HA,HJ8,HO_6,HO_11,HB⟩:=hcut
    cases kq with
    | zero=>exact absurd HA.out (by simp [spec_DecodeRow.j1])
    | succ kj8 =>
     have H:=HA.out
     clear HA
     simp only [spec_DecodeRow.j1] at H
     by_cases c13 : x40_8 = true
     ·subst c13
      have H1 : ((spec_l7Val.f kj8 t373 x9_1).bind fun bt383=>(if bt383.2.2.2.2 = true then (if x11_1.length < 4398046511104 then (spec_DecodeRow.l0 kj8 l0 t373 t374 t377 bt383.2.2.2.1 t379 (x11_1 ++ [(⟨bt383.1,bt383.2.1,bt383.2.2.1⟩ : S116)]) (wrap64 (x12_1 + 1))) else (none)) else (some ((([] : List (S116))),false)))) = some (r1,r2):=by rw [if_pos rfl] at H;exact H
      clear H
      have H:=H1
      clear H1
      replace H:=oB_ H
      obtain ⟨⟨t383,t384,t385,t386,t387⟩,A140,H⟩:=H
      replace H : (if t387 = true then (if x11_1.length < 4398046511104 then (spec_DecodeRow.l0 kj8 l0 t373 t374 t377 t386 t379 (x11_1 ++ [(⟨t383,t384,t385⟩ : S116)]) (wrap64 (x12_1 + 1))) else (none)) else (some ((([] : List (S116))),false))) = some (r1,r2):=H
      have A14:=aM_ A140
      clear A140
      by_cases c15 : t387 = true
      ·subst c15
       have H1 : (if x11_1.length < 4398046511104 then (spec_DecodeRow.l0 kj8 l0 t373 t374 t377 t386 t379 (x11_1 ++ [(⟨t383,t384,t385⟩ : S116)]) (wrap64 (x12_1 + 1))) else (none)) = some (r1,r2):=by rw [if_pos rfl] at H;exact H
       clear H
       have H:=H1
       clear H1
       by_cases c16 : x11_1.length < 4398046511104
       ·rw [if_pos c16] at H
        have LMc16:=aM_ c16
        clear c16
        obtain ⟨y389,hy389⟩ : ∃ y_ : List (S116),y_ = (x11_1 ++ [(⟨t383,t384,t385⟩ : S116)]):=⟨_,rfl⟩
        replace H : (spec_DecodeRow.l0 kj8 l0 t373 t374 t377 t386 t379 y389 (wrap64 (x12_1 + 1))) = some (r1,r2):=by first | (rw [hy389];with_reducible exact H) | (have H2_:=(Option.bind_some _ _).symm.trans H;rw [hy389];with_reducible exact H2_) | (have H2_:=(Option.bind_some _ _).symm.trans H;with_reducible exact H2_) | with_reducible exact H | (rw [hy389];exact H) | exact H
        have Ny389:=aM_ hy389
        clear hy389
        have H':=aM_ H
        clear H
        go_wp2_with (first | ((with_reducible refine gate_callee (f:=118) rfl ?_);refine goesL_ (some 46) rfl rfl Try.func118 (by kernel_rfl) rfl #[.slice Ao6 t373.length co6,.int .i64 x9_1] rfl (by (try simp only [mA_,mC_,mN_]);first | done | rfl | (simp only [lD_,lT_];rfl)) ?_;(with_reducible refine (spec_l7Val.calls kj8 _ _ t373 x9_1 t383 t384 t385 t386 true _ ?side1 ?side2 A14.out).mono ?_);(case side1=>repeat (first | exact (Kd.R_reads' HO_6.out).2.2 | (with_reducible refine cA_ ?_ _) | (with_reducible refine cN_ ?_ _) | (with_reducible refine cD_ ?_)));(case side2=>exact (Kd.R_reads' HO_6.out).2.1);rintro e w17 ⟨rfl,hb⟩;refine ⟨_,rfl,?_⟩;have n0_:=aM_ (Kd.R_below (by exact rZ_ HO_6) hb);have n1_:=aM_ (Kd.R_below (by exact rZ_ HO_11) hb);have n2_:=aM_ (bT_ (by exact bZ_ HB) hb);clear HO_6;clear HO_11;clear HB;have HO_6:=n0_;have HO_11:=n1_;have HB:=n2_;clear n0_ n1_ n2_;(try clear hb);(try clear hb2);(try clear hk);(try clear hi)) | ((with_reducible refine gate_dst (N:=13) rfl ?_);(try (refine gate_guard (by rfl) ?_;dsimp only));refine box_event ?hg (N:=13) ?hd (cs:=#[.int .i64 0,.int .i64 0,.string (⟨#[]⟩ : ByteArray)]) (t:=116) ?hr ?_;(case hd=>rfl);(case hg=>rfl);(case hr=>first | (go_simp;done) | (go_simp;rfl));intro gb388 hg w18 hbox hb;have n0_:=aM_ (Kd.R_below (by exact rZ_ HO_6) hb);have n1_:=aM_ (Kd.R_below (Kd.R_elderB (by exact rZ_ HO_11) gb388 (Nat.le_of_eq hg.symm)) hb);have n2_:=aM_ (bT_ (by exact bZ_ HB) hb);have n3_:=aM_ (hbox);have n4_:=aM_ ((by rw [hg];exact (bS_ (by exact bZ_ HB)) : w.heap.size ≤ gb388));have n5_:=aM_ ((by rw [hg];exact (bS_ (by exact bZ_ HB)) : w.heap.size ≤ gb388));clear HO_6;clear HO_11;clear HB;have HO_6:=n0_;have HO_11:=n1_;have HB:=n2_;have BK388:=n3_;have GW388:=n4_;have GE388:=n5_;clear n0_ n1_ n2_ n3_ n4_ n5_;clear hb hbox hg;have hcz19_0 : w18.cell? ⟨gb388,0,none⟩ = some (.int .i64 0):=(kC_ BK388.out 0).trans rfl;have hcz19_1 : w18.cell? ⟨gb388,1,none⟩ = some (.int .i64 0):=(kC_ BK388.out 1).trans rfl;have hcz19_2 : w18.cell? ⟨gb388,2,none⟩ = some (.string (⟨#[]⟩ : ByteArray)):=(kC_ BK388.out 2).trans rfl;have hfz19_0:=kF_ BK388.out 0;have hfz19_1:=kF_ BK388.out 1;have hfz19_2:=kF_ BK388.out 2) | ((with_reducible refine gate_builtin (b:=.append) (xs:=#[.tmp 53,.tmp 55]) rfl ?_);(try (refine gate_guard (by rfl) ?_;dsimp only));at_builtin;refine Kd.R_append k116 (w0:=w) w.heap.size rfl (.tmp 53) (.tmp 55) 50 116 (.agg #[(.int .i64 0),(.int .i64 0),(.string ⟨#[]⟩)]) 32 rfl Try.underlying50 info116 rfl (by decide) (by omega) u11 x11_1 (⟨t383,t384,t385⟩ : S116) [.int .i64 t383,.int .i64 t384,.string t385] (fun k_=>k_ ≠ gb388) (fun _=>False) rfl (by first | (go_simp;done) | (go_simp;rfl)) ?aP (fun _ hk=>hk.elim) ?aF ?aO ?aB ?aS ?aL ?_;(case aP=>exact k116_mkM _ _ _ (⟨t383,t384,t385⟩ : S116));(case aB=>exact (by exact bZ_ HB));(case aF=>exact (fun k_ hk=>Kd.freshB (g:=gb388) (o:=.cells #[.int .i64 t383,.int .i64 t384,.string t385] 116 (0,0)) (by (with_reducible repeat (first | refine kN_ ?_ _ | refine kD_ ?_ | refine kA_ ?_ _));refine kP_ (cs:=#[.int .i64 t383,.int .i64 t384,.string (⟨#[]⟩ : ByteArray)]) ?_ 2 _ rfl;(with_reducible repeat (first | refine kN_ ?_ _ | refine kD_ ?_ | refine kA_ ?_ _));refine kP_ (cs:=#[.int .i64 t383,.int .i64 0,.string (⟨#[]⟩ : ByteArray)]) ?_ 1 _ rfl;(with_reducible repeat (first | refine kN_ ?_ _ | refine kD_ ?_ | refine kA_ ?_ _));refine kP_ (cs:=#[.int .i64 0,.int .i64 0,.string (⟨#[]⟩ : ByteArray)]) ?_ 0 _ rfl;exact kZ_ BK388) k_ hk));(case aO=>exact (by (with_reducible repeat (first | apply rA_ | apply rN_ | apply rD_));exact Kd.R_mono (Kd.R_far (p:=⟨gb388,2,none⟩) (Kd.R_far (p:=⟨gb388,1,none⟩) (Kd.R_far (p:=⟨gb388,0,none⟩) (Kd.R_mono HO_11.out (fun k_ hk=>(⟨hk,hk.2⟩ : _ ∧ k_ ≠ gb388))) (fun _ hk=>hk.2) (.int .i64 t383)) (fun _ hk=>hk.2) (.int .i64 t384)) (fun _ hk=>hk.2) (.string t385)) (fun _ hk=>hk.1.2)));(case aS=>exact (bS_ (by exact bZ_ HB)));(case aL=>have:=LMc16.out;omega);intro v390 w20 ho hb hg hat;rw [← Ny389.out] at ho;have n0_:=aM_ (Kd.R_over' (by (with_reducible repeat (first | apply rA_ | apply rN_ | apply rD_));exact (Kd.R_mono (Kd.R_far (p:=⟨gb388,2,none⟩) (Kd.R_far (p:=⟨gb388,1,none⟩) (Kd.R_far (p:=⟨gb388,0,none⟩) (Kd.R_types HO_6.out BK388.out (by decide)) (fun _ hk=>hk.2) (.int .i64 t383)) (fun _ hk=>hk.2) (.int .i64 t384)) (fun _ hk=>hk.2) (.string t385)) (fun _ h_=>h_.1))) (Kd.R_typed (by (with_reducible repeat (first | apply rA_ | apply rN_ | apply rD_));exact (Kd.R_mono (Kd.R_far (p:=⟨gb388,2,none⟩) (Kd.R_far (p:=⟨gb388,1,none⟩) (Kd.R_far (p:=⟨gb388,0,none⟩) (Kd.R_mono HO_11.out (fun k_ hk=>(⟨hk,hk.2⟩ : _ ∧ k_ ≠ gb388))) (fun _ hk=>hk.2) (.int .i64 t383)) (fun _ hk=>hk.2) (.int .i64 t384)) (fun _ hk=>hk.2) (.string t385)) (fun _ h_=>h_.1)))) (by decide) hg);have n1_:=aM_ (blk_grown (g:=gb388) (o:=.cells #[.int .i64 t383,.int .i64 t384,.string t385] 116 (0,0)) (by (with_reducible repeat (first | refine kN_ ?_ _ | refine kD_ ?_ | refine kA_ ?_ _));refine kP_ (cs:=#[.int .i64 t383,.int .i64 t384,.string (⟨#[]⟩ : ByteArray)]) ?_ 2 _ rfl;(with_reducible repeat (first | refine kN_ ?_ _ | refine kD_ ?_ | refine kA_ ?_ _));refine kP_ (cs:=#[.int .i64 t383,.int .i64 0,.string (⟨#[]⟩ : ByteArray)]) ?_ 1 _ rfl;(with_reducible repeat (first | refine kN_ ?_ _ | refine kD_ ?_ | refine kA_ ?_ _));refine kP_ (cs:=#[.int .i64 0,.int .i64 0,.string (⟨#[]⟩ : ByteArray)]) ?_ 0 _ rfl;exact kZ_ BK388) hg (Kd.R_away HO_11.out (fun _ hk=>hk.2)));have n2_:=aM_ (hb);have n3_:=aM_ (ho);clear HO_6;clear BK388;clear HB;clear HO_11;have HO_6:=n0_;have BK388:=n1_;have HB:=n2_;have HO391:=n3_;clear n0_ n1_ n2_ n3_;clear ho hb hg hat))
        go_roundg kj8
        case measure=>have:=HK1.out;have:=HJ8.out;omega
        case rel=>exact ⟨(t386),(y389),(wrap64 (x12_1 + 1)),(by first | rfl | (simp;done) | (simp [*];done)),(by first | rfl | (simp;done) | (simp [*];done)),H', ⟨by have:=HK1.out;have:=HJ8.out;omega⟩,⟨by exact rZ_ HO_6⟩,⟨by (with_reducible repeat (first | apply rA_ | apply rN_ | apply rD_));exact Kd.R_mono HO391.out (fun _ hk=>trivial)⟩,⟨by exact bZ_ HB⟩⟩
       ·rw [if_neg c16] at H
        exact absurd H (by simp)
      ·replace c15:=Bool.eq_false_iff.mpr c15
       subst c15
       have H1 : (some ((([] : List (S116))),false)) = some (r1,r2):=by rw [if_neg (show ¬ (false = true) by decide)] at H;exact H
       clear H
       have H:=H1
       clear H1
       obtain ⟨y392,hy392⟩ : ∃ y_ : List (S116),y_ = (([] : List (S116))):=⟨_,rfl⟩
       replace H : (some (y392,false)) = some (r1,r2):=by first | (rw [hy392];with_reducible exact H) | (have H2_:=(Option.bind_some _ _).symm.trans H;rw [hy392];with_reducible exact H2_) | (have H2_:=(Option.bind_some _ _).symm.trans H;with_reducible exact H2_) | with_reducible exact H | (rw [hy392];exact H) | exact H
       have Ny392:=aM_ hy392
       clear hy392
       simp only [Option.some.injEq,Prod.mk.injEq] at H
       obtain ⟨rfl,rfl⟩:=H
       go_wp2_with (first | ((with_reducible refine gate_callee (f:=118) rfl ?_);refine goesL_ (some 46) rfl rfl Try.func118 (by kernel_rfl) rfl #[.slice Ao6 t373.length co6,.int .i64 x9_1] rfl (by (try simp only [mA_,mC_,mN_]);first | done | rfl | (simp only [lD_,lT_];rfl)) ?_;(with_reducible refine (spec_l7Val.calls kj8 _ _ t373 x9_1 t383 t384 t385 t386 false _ ?side1 ?side2 A14.out).mono ?_);(case side1=>repeat (first | exact (Kd.R_reads' HO_6.out).2.2 | (with_reducible refine cA_ ?_ _) | (with_reducible refine cN_ ?_ _) | (with_reducible refine cD_ ?_)));(case side2=>exact (Kd.R_reads' HO_6.out).2.1);rintro e w21 ⟨rfl,hb⟩;refine ⟨_,rfl,?_⟩;have n0_:=aM_ (Kd.R_below (by exact rZ_ HO_6) hb);have n1_:=aM_ (Kd.R_below (by exact rZ_ HO_11) hb);have n2_:=aM_ (bT_ (by exact bZ_ HB) hb);clear HO_6;clear HO_11;clear HB;have HO_6:=n0_;have HO_11:=n1_;have HB:=n2_;clear n0_ n1_ n2_;(try clear hb);(try clear hb2);(try clear hk);(try clear hi)) | ((with_reducible refine gate_dst (N:=13) rfl ?_);(try (refine gate_guard (by rfl) ?_;dsimp only));refine box_event ?hg (N:=13) ?hd (cs:=#[.int .i64 0,.int .i64 0,.string (⟨#[]⟩ : ByteArray)]) (t:=116) ?hr ?_;(case hd=>rfl);(case hg=>rfl);(case hr=>first | (go_simp;done) | (go_simp;rfl));intro gb388 hg w22 hbox hb;have n0_:=aM_ (Kd.R_below (by exact rZ_ HO_6) hb);have n1_:=aM_ (Kd.R_below (Kd.R_elderB (by exact rZ_ HO_11) gb388 (Nat.le_of_eq hg.symm)) hb);have n2_:=aM_ (bT_ (by exact bZ_ HB) hb);have n3_:=aM_ (hbox);have n4_:=aM_ ((by rw [hg];exact (bS_ (by exact bZ_ HB)) : w.heap.size ≤ gb388));have n5_:=aM_ ((by rw [hg];exact (bS_ (by exact bZ_ HB)) : w.heap.size ≤ gb388));clear HO_6;clear HO_11;clear HB;have HO_6:=n0_;have HO_11:=n1_;have HB:=n2_;have BK388:=n3_;have GW388:=n4_;have GE388:=n5_;clear n0_ n1_ n2_ n3_ n4_ n5_;clear hb hbox hg;have hcz23_0 : w22.cell? ⟨gb388,0,none⟩ = some (.int .i64 0):=(kC_ BK388.out 0).trans rfl;have hcz23_1 : w22.cell? ⟨gb388,1,none⟩ = some (.int .i64 0):=(kC_ BK388.out 1).trans rfl;have hcz23_2 : w22.cell? ⟨gb388,2,none⟩ = some (.string (⟨#[]⟩ : ByteArray)):=(kC_ BK388.out 2).trans rfl;have hfz23_0:=kF_ BK388.out 0;have hfz23_1:=kF_ BK388.out 1;have hfz23_2:=kF_ BK388.out 2) | ((with_reducible refine gate_dst (N:=52) rfl ?_);(try (refine gate_guard (by rfl) ?_;dsimp only));refine Kd.R_lit k116 _ 116 ?hg (N:=52) ?hd (xs:=([] : List (S116))) (inner:=[]) (ok:=fun _=>True) (okp:=fun _=>True) ?hr ?hp (fun _ hk=>hk) trivial (Below.refl _ _) (Nat.le_refl _) (by simp) ?_;(case hd=>rfl);(case hg=>rfl);(case hr=>first | (go_simp;done) | (go_simp;rfl));(case hp=>exact (Reps.none _ _));intro v393 w24 ho25 hb hg_ hnew_;clear hg_ hnew_;(first | rw [← Ny392.out] at ho25 | (simp only [Int.reduceToNat] at ho25;rw [← Ny392.out] at ho25));have n0_:=aM_ (Kd.R_below (by (with_reducible repeat (first | apply rA_ | apply rN_ | apply rD_));exact (Kd.R_mono (Kd.R_far (p:=⟨gb388,2,none⟩) (Kd.R_far (p:=⟨gb388,1,none⟩) (Kd.R_far (p:=⟨gb388,0,none⟩) (Kd.R_types HO_6.out BK388.out (by decide)) (fun _ hk=>hk.2) (.int .i64 t383)) (fun _ hk=>hk.2) (.int .i64 t384)) (fun _ hk=>hk.2) (.string t385)) (fun _ h_=>h_.1))) hb);have n1_:=aM_ (Kd.R_elder' (by (with_reducible repeat (first | apply rA_ | apply rN_ | apply rD_));exact (Kd.R_mono (Kd.R_far (p:=⟨gb388,2,none⟩) (Kd.R_far (p:=⟨gb388,1,none⟩) (Kd.R_far (p:=⟨gb388,0,none⟩) (Kd.R_mono HO_11.out (fun k_ hk=>(⟨hk,hk.2⟩ : _ ∧ k_ ≠ gb388))) (fun _ hk=>hk.2) (.int .i64 t383)) (fun _ hk=>hk.2) (.int .i64 t384)) (fun _ hk=>hk.2) (.string t385)) (fun _ h_=>h_.1))) (Kd.R_base ho25) hb);have n2_:=aM_ (Kd.R_lower (Kd.R_newB (Kd.R_new' ho25 (Kd.R_lt (by (with_reducible repeat (first | apply rA_ | apply rN_ | apply rD_));exact (Kd.R_mono (Kd.R_far (p:=⟨gb388,2,none⟩) (Kd.R_far (p:=⟨gb388,1,none⟩) (Kd.R_far (p:=⟨gb388,0,none⟩) (Kd.R_mono HO_11.out (fun k_ hk=>(⟨hk,hk.2⟩ : _ ∧ k_ ≠ gb388))) (fun _ hk=>hk.2) (.int .i64 t383)) (fun _ hk=>hk.2) (.int .i64 t384)) (fun _ hk=>hk.2) (.string t385)) (fun _ h_=>h_.1))))) (g:=gb388) (o:=.cells #[.int .i64 t383,.int .i64 t384,.string t385] 116 (0,0)) (by (with_reducible repeat (first | refine kN_ ?_ _ | refine kD_ ?_ | refine kA_ ?_ _));refine kP_ (cs:=#[.int .i64 t383,.int .i64 t384,.string (⟨#[]⟩ : ByteArray)]) ?_ 2 _ rfl;(with_reducible repeat (first | refine kN_ ?_ _ | refine kD_ ?_ | refine kA_ ?_ _));refine kP_ (cs:=#[.int .i64 t383,.int .i64 0,.string (⟨#[]⟩ : ByteArray)]) ?_ 1 _ rfl;(with_reducible repeat (first | refine kN_ ?_ _ | refine kD_ ?_ | refine kA_ ?_ _));refine kP_ (cs:=#[.int .i64 0,.int .i64 0,.string (⟨#[]⟩ : ByteArray)]) ?_ 0 _ rfl;exact kZ_ BK388)) (bS_ (by exact bZ_ HB)));have n3_:=aM_ (blk_below (g:=gb388) (o:=.cells #[.int .i64 t383,.int .i64 t384,.string t385] 116 (0,0)) (by (with_reducible repeat (first | refine kN_ ?_ _ | refine kD_ ?_ | refine kA_ ?_ _));refine kP_ (cs:=#[.int .i64 t383,.int .i64 t384,.string (⟨#[]⟩ : ByteArray)]) ?_ 2 _ rfl;(with_reducible repeat (first | refine kN_ ?_ _ | refine kD_ ?_ | refine kA_ ?_ _));refine kP_ (cs:=#[.int .i64 t383,.int .i64 0,.string (⟨#[]⟩ : ByteArray)]) ?_ 1 _ rfl;(with_reducible repeat (first | refine kN_ ?_ _ | refine kD_ ?_ | refine kA_ ?_ _));refine kP_ (cs:=#[.int .i64 0,.int .i64 0,.string (⟨#[]⟩ : ByteArray)]) ?_ 0 _ rfl;exact kZ_ BK388) hb);have n4_:=aM_ (bT_ (by exact bZ_ HB) hb);clear HO_6;clear HO_11;clear BK388;clear HB;have HO_6:=n0_;have HO_11:=n1_;have HO394:=n2_;have BK388:=n3_;have HB:=n4_;clear n0_ n1_ n2_ n3_ n4_;clear hb ho25))
       go_ret2
       exact ⟨_,by first | rfl | (simp [errW_none,errW_some] <;> rfl) | (simp [*, errW_none,errW_some] <;> rfl),by (with_reducible repeat (first | apply rA_ | apply rN_ | apply rD_));exact Kd.R_mono HO394.out (fun _ hk=>trivial),by exact bZ_ HB⟩
     ·replace c13:=Bool.eq_false_iff.mpr c13
      subst c13
      have H1 : (if t374 = true then (if t379 = true then (if x9_1 = (t373.length : Int) then (if t377 = (x11_1.length : Int) then ((spec_RowOk.f kj8 l0 x11_1).bind fun t395=>(if t395 = true then (some (x11_1,true)) else (some ((([] : List (S116))),false)))) else (some ((([] : List (S116))),false))) else (some ((([] : List (S116))),false))) else (some ((([] : List (S116))),false))) else (some ((([] : List (S116))),false))) = some (r1,r2):=by rw [if_neg (show ¬ (false = true) by decide)] at H;exact H
      clear H
      have H:=H1
      clear H1
      by_cases c26 : t374 = true
      ·subst c26
       have H1 : (if t379 = true then (if x9_1 = (t373.length : Int) then (if t377 = (x11_1.length : Int) then ((spec_RowOk.f kj8 l0 x11_1).bind fun t395=>(if t395 = true then (some (x11_1,true)) else (some ((([] : List (S116))),false)))) else (some ((([] : List (S116))),false))) else (some ((([] : List (S116))),false))) else (some ((([] : List (S116))),false))) = some (r1,r2):=by rw [if_pos rfl] at H;exact H
       clear H
       have H:=H1
       clear H1
       by_cases c27 : t379 = true
       ·subst c27
        have H1 : (if x9_1 = (t373.length : Int) then (if t377 = (x11_1.length : Int) then ((spec_RowOk.f kj8 l0 x11_1).bind fun t395=>(if t395 = true then (some (x11_1,true)) else (some ((([] : List (S116))),false)))) else (some ((([] : List (S116))),false))) else (some ((([] : List (S116))),false))) = some (r1,r2):=by rw [if_pos rfl] at H;exact H
        clear H
        have H:=H1
        clear H1
        by_cases c28 : x9_1 = (t373.length : Int)
        ·rw [if_pos c28] at H
         have c28b0 : (x9_1 == (t373.length : Int)) = true:=beq_iff_eq.mpr c28
         have c28b1 : (x9_1 != (t373.length : Int)) = false:=bne_eq_false_iff_eq.mpr c28
         clear c28
         by_cases c29 : t377 = (x11_1.length : Int)
         ·rw [if_pos c29] at H
          have c29b0 : (t377 == (x11_1.length : Int)) = true:=beq_iff_eq.mpr c29
          have c29b1 : (t377 != (x11_1.length : Int)) = false:=bne_eq_false_iff_eq.mpr c29
          clear c29
          replace H:=oB_ H
          obtain ⟨t395,A300,H⟩:=H
          replace H : (if t395 = true then (some (x11_1,true)) else (some ((([] : List (S116))),false))) = some (r1,r2):=H
          have A30:=aM_ A300
          clear A300
          by_cases c31 : t395 = true
          ·subst c31
           have H1 : (some (x11_1,true)) = some (r1,r2):=by rw [if_pos rfl] at H;exact H
           clear H
           have H:=H1
           clear H1
           simp only [Option.some.injEq,Prod.mk.injEq] at H
           obtain ⟨rfl,rfl⟩:=H
           obtain ⟨Ao32,co32,eo32⟩:=Kd.R_slice HO_11.out
           subst eo32
           go_wp2_with (first | (go_at_call 45;(with_reducible refine (spec_RowOk.calls kj8 _ _ l0 _ _ x11_1 true _ ?side1 ?side2 ?side3 ?side4 A30.out).mono ?_);(case side1=>repeat (first | exact (Kd.C_below HR0.out HB.out) | (with_reducible refine cA_ ?_ _) | (with_reducible refine cN_ ?_ _) | (with_reducible refine cD_ ?_)));(case side2=>exact HC0.out);(case side3=>repeat (first | exact (Kd.R_reads' HO_11.out).2.2 | (with_reducible refine cA_ ?_ _) | (with_reducible refine cN_ ?_ _) | (with_reducible refine cD_ ?_)));(case side4=>exact (Kd.R_reads' HO_11.out).2.1);rintro e w33 ⟨rfl,hb⟩;have n0_:=aM_ (Kd.R_below (by exact rZ_ HO_6) hb);have n1_:=aM_ (Kd.R_below (by exact rZ_ HO_11) hb);have n2_:=aM_ (bT_ (by exact bZ_ HB) hb);clear HO_6;clear HO_11;clear HB;have HO_6:=n0_;have HO_11:=n1_;have HB:=n2_;clear n0_ n1_ n2_;(try clear hb);(try clear hb2);(try clear hk);(try clear hi)))
           go_ret2
           exact ⟨_,by first | rfl | (simp [errW_none,errW_some] <;> rfl) | (simp [*, errW_none,errW_some] <;> rfl),by exact rZ_ HO_11,by exact bZ_ HB⟩
          ·replace c31:=Bool.eq_false_iff.mpr c31
           subst c31
           have H1 : (some ((([] : List (S116))),false)) = some (r1,r2):=by rw [if_neg (show ¬ (false = true) by decide)] at H;exact H
           clear H
           have H:=H1
           clear H1
           obtain ⟨y396,hy396⟩ : ∃ y_ : List (S116),y_ = (([] : List (S116))):=⟨_,rfl⟩
           replace H : (some (y396,false)) = some (r1,r2):=by first | (rw [hy396];with_reducible exact H) | (have H2_:=(Option.bind_some _ _).symm.trans H;rw [hy396];with_reducible exact H2_) | (have H2_:=(Option.bind_some _ _).symm.trans H;with_reducible exact H2_) | with_reducible exact H | (rw [hy396];exact H) | exact H
           have Ny396:=aM_ hy396
           clear hy396
           simp only [Option.some.injEq,Prod.mk.injEq] at H
           obtain ⟨rfl,rfl⟩:=H
           obtain ⟨Ao34,co34,eo34⟩:=Kd.R_slice HO_11.out
           subst eo34
           go_wp2_with (first | (go_at_call 45;(with_reducible refine (spec_RowOk.calls kj8 _ _ l0 _ _ x11_1 false _ ?side1 ?side2 ?side3 ?side4 A30.out).mono ?_);(case side1=>repeat (first | exact (Kd.C_below HR0.out HB.out) | (with_reducible refine cA_ ?_ _) | (with_reducible refine cN_ ?_ _) | (with_reducible refine cD_ ?_)));(case side2=>exact HC0.out);(case side3=>repeat (first | exact (Kd.R_reads' HO_11.out).2.2 | (with_reducible refine cA_ ?_ _) | (with_reducible refine cN_ ?_ _) | (with_reducible refine cD_ ?_)));(case side4=>exact (Kd.R_reads' HO_11.out).2.1);rintro e w35 ⟨rfl,hb⟩;have n0_:=aM_ (Kd.R_below (by exact rZ_ HO_6) hb);have n1_:=aM_ (Kd.R_below (by exact rZ_ HO_11) hb);have n2_:=aM_ (bT_ (by exact bZ_ HB) hb);clear HO_6;clear HO_11;clear HB;have HO_6:=n0_;have HO_11:=n1_;have HB:=n2_;clear n0_ n1_ n2_;(try clear hb);(try clear hb2);(try clear hk);(try clear hi)) | ((with_reducible refine gate_dst (N:=82) rfl ?_);(try (refine gate_guard (by rfl) ?_;dsimp only));refine Kd.R_lit k116 _ 116 ?hg (N:=82) ?hd (xs:=([] : List (S116))) (inner:=[]) (ok:=fun _=>True) (okp:=fun _=>True) ?hr ?hp (fun _ hk=>hk) trivial (Below.refl _ _) (Nat.le_refl _) (by simp) ?_;(case hd=>rfl);(case hg=>rfl);(case hr=>first | (go_simp;done) | (go_simp;rfl));(case hp=>exact (Reps.none _ _));intro v397 w36 ho37 hb hg_ hnew_;clear hg_ hnew_;(first | rw [← Ny396.out] at ho37 | (simp only [Int.reduceToNat] at ho37;rw [← Ny396.out] at ho37));have n0_:=aM_ (Kd.R_below (by exact rZ_ HO_6) hb);have n1_:=aM_ (Kd.R_elder' (by exact rZ_ HO_11) (Kd.R_base ho37) hb);have n2_:=aM_ (Kd.R_lower (Kd.R_new' ho37 (Kd.R_lt (by exact rZ_ HO_11))) (bS_ (by exact bZ_ HB)));have n3_:=aM_ (bT_ (by exact bZ_ HB) hb);clear HO_6;clear HO_11;clear HB;have HO_6:=n0_;have HO_11:=n1_;have HO398:=n2_;have HB:=n3_;clear n0_ n1_ n2_ n3_;clear hb ho37))
           go_ret2
           exact ⟨_,by first | rfl | (simp [errW_none,errW_some] <;> rfl) | (simp [*, errW_none,errW_some] <;> rfl),by (with_reducible repeat (first | apply rA_ | apply rN_ | apply rD_));exact Kd.R_mono HO398.out (fun _ hk=>trivial),by exact bZ_ HB⟩
         ·rw [if_neg c29] at H
          have c29b0 : (t377 == (x11_1.length : Int)) = false:=beq_eq_false_iff_ne.mpr c29
          have c29b1 : (t377 != (x11_1.length : Int)) = true:=bne_iff_ne.mpr c29
          obtain ⟨y399,hy399⟩ : ∃ y_ : List (S116),y_ = (([] : List (S116))):=⟨_,rfl⟩
          replace H : (some (y399,false)) = some (r1,r2):=by first | (rw [hy399];with_reducible exact H) | (have H2_:=(Option.bind_some _ _).symm.trans H;rw [hy399];with_reducible exact H2_) | (have H2_:=(Option.bind_some _ _).symm.trans H;with_reducible exact H2_) | with_reducible exact H | (rw [hy399];exact H) | exact H
          have Ny399:=aM_ hy399
          clear hy399
          simp only [Option.some.injEq,Prod.mk.injEq] at H
          obtain ⟨rfl,rfl⟩:=H
          obtain ⟨Ao38,co38,eo38⟩:=Kd.R_slice HO_11.out
          subst eo38
          go_wp2_with (first | ((with_reducible refine gate_dst (N:=82) rfl ?_);(try (refine gate_guard (by rfl) ?_;dsimp only));refine Kd.R_lit k116 _ 116 ?hg (N:=82) ?hd (xs:=([] : List (S116))) (inner:=[]) (ok:=fun _=>True) (okp:=fun _=>True) ?hr ?hp (fun _ hk=>hk) trivial (Below.refl _ _) (Nat.le_refl _) (by simp) ?_;(case hd=>rfl);(case hg=>rfl);(case hr=>first | (go_simp;done) | (go_simp;rfl));(case hp=>exact (Reps.none _ _));intro v400 w39 ho40 hb hg_ hnew_;clear hg_ hnew_;(first | rw [← Ny399.out] at ho40 | (simp only [Int.reduceToNat] at ho40;rw [← Ny399.out] at ho40));have n0_:=aM_ (Kd.R_below (by exact rZ_ HO_6) hb);have n1_:=aM_ (Kd.R_elder' (by exact rZ_ HO_11) (Kd.R_base ho40) hb);have n2_:=aM_ (Kd.R_lower (Kd.R_new' ho40 (Kd.R_lt (by exact rZ_ HO_11))) (bS_ (by exact bZ_ HB)));have n3_:=aM_ (bT_ (by exact bZ_ HB) hb);clear HO_6;clear HO_11;clear HB;have HO_6:=n0_;have HO_11:=n1_;have HO401:=n2_;have HB:=n3_;clear n0_ n1_ n2_ n3_;clear hb ho40))
          go_ret2
          exact ⟨_,by first | rfl | (simp [errW_none,errW_some] <;> rfl) | (simp [*, errW_none,errW_some] <;> rfl),by (with_reducible repeat (first | apply rA_ | apply rN_ | apply rD_));exact Kd.R_mono HO401.out (fun _ hk=>trivial),by exact bZ_ HB⟩
        ·rw [if_neg c28] at H
         have c28b0 : (x9_1 == (t373.length : Int)) = false:=beq_eq_false_iff_ne.mpr c28
         have c28b1 : (x9_1 != (t373.length : Int)) = true:=bne_iff_ne.mpr c28
         obtain ⟨y402,hy402⟩ : ∃ y_ : List (S116),y_ = (([] : List (S116))):=⟨_,rfl⟩
         replace H : (some (y402,false)) = some (r1,r2):=by first | (rw [hy402];with_reducible exact H) | (have H2_:=(Option.bind_some _ _).symm.trans H;rw [hy402];with_reducible exact H2_) | (have H2_:=(Option.bind_some _ _).symm.trans H;with_reducible exact H2_) | with_reducible exact H | (rw [hy402];exact H) | exact H
         have Ny402:=aM_ hy402
         clear hy402
         simp only [Option.some.injEq,Prod.mk.injEq] at H
         obtain ⟨rfl,rfl⟩:=H
         go_wp2_with (first | ((with_reducible refine gate_dst (N:=82) rfl ?_);(try (refine gate_guard (by rfl) ?_;dsimp only));refine Kd.R_lit k116 _ 116 ?hg (N:=82) ?hd (xs:=([] : List (S116))) (inner:=[]) (ok:=fun _=>True) (okp:=fun _=>True) ?hr ?hp (fun _ hk=>hk) trivial (Below.refl _ _) (Nat.le_refl _) (by simp) ?_;(case hd=>rfl);(case hg=>rfl);(case hr=>first | (go_simp;done) | (go_simp;rfl));(case hp=>exact (Reps.none _ _));intro v403 w41 ho42 hb hg_ hnew_;clear hg_ hnew_;(first | rw [← Ny402.out] at ho42 | (simp only [Int.reduceToNat] at ho42;rw [← Ny402.out] at ho42));have n0_:=aM_ (Kd.R_below (by exact rZ_ HO_6) hb);have n1_:=aM_ (Kd.R_elder' (by exact rZ_ HO_11) (Kd.R_base ho42) hb);have n2_:=aM_ (Kd.R_lower (Kd.R_new' ho42 (Kd.R_lt (by exact rZ_ HO_11))) (bS_ (by exact bZ_ HB)));have n3_:=aM_ (bT_ (by exact bZ_ HB) hb);clear HO_6;clear HO_11;clear HB;have HO_6:=n0_;have HO_11:=n1_;have HO404:=n2_;have HB:=n3_;clear n0_ n1_ n2_ n3_;clear hb ho42))
         go_ret2
         exact ⟨_,by first | rfl | (simp [errW_none,errW_some] <;> rfl) | (simp [*, errW_none,errW_some] <;> rfl),by (with_reducible repeat (first | apply rA_ | apply rN_ | apply rD_));exact Kd.R_mono HO404.out (fun _ hk=>trivial),by exact bZ_ HB⟩
       ·replace c27:=Bool.eq_false_iff.mpr c27
        subst c27
        have H1 : (some ((([] : List (S116))),false)) = some (r1,r2):=by rw [if_neg (show ¬ (false = true) by decide)] at H;exact H
        clear H
        have H:=H1
        clear H1
        obtain ⟨y405,hy405⟩ : ∃ y_ : List (S116),y_ = (([] : List (S116))):=⟨_,rfl⟩
        replace H : (some (y405,false)) = some (r1,r2):=by first | (rw [hy405];with_reducible exact H) | (have H2_:=(Option.bind_some _ _).symm.trans H;rw [hy405];with_reducible exact H2_) | (have H2_:=(Option.bind_some _ _).symm.trans H;with_reducible exact H2_) | with_reducible exact H | (rw [hy405];exact H) | exact H
        have Ny405:=aM_ hy405
        clear hy405
        simp only [Option.some.injEq,Prod.mk.injEq] at H
        obtain ⟨rfl,rfl⟩:=H
        go_wp2_with (first | ((with_reducible refine gate_dst (N:=82) rfl ?_);(try (refine gate_guard (by rfl) ?_;dsimp only));refine Kd.R_lit k116 _ 116 ?hg (N:=82) ?hd (xs:=([] : List (S116))) (inner:=[]) (ok:=fun _=>True) (okp:=fun _=>True) ?hr ?hp (fun _ hk=>hk) trivial (Below.refl _ _) (Nat.le_refl _) (by simp) ?_;(case hd=>rfl);(case hg=>rfl);(case hr=>first | (go_simp;done) | (go_simp;rfl));(case hp=>exact (Reps.none _ _));intro v406 w43 ho44 hb hg_ hnew_;clear hg_ hnew_;(first | rw [← Ny405.out] at ho44 | (simp only [Int.reduceToNat] at ho44;rw [← Ny405.out] at ho44));have n0_:=aM_ (Kd.R_below (by exact rZ_ HO_6) hb);have n1_:=aM_ (Kd.R_elder' (by exact rZ_ HO_11) (Kd.R_base ho44) hb);have n2_:=aM_ (Kd.R_lower (Kd.R_new' ho44 (Kd.R_lt (by exact rZ_ HO_11))) (bS_ (by exact bZ_ HB)));have n3_:=aM_ (bT_ (by exact bZ_ HB) hb);clear HO_6;clear HO_11;clear HB;have HO_6:=n0_;have HO_11:=n1_;have HO407:=n2_;have HB:=n3_;clear n0_ n1_ n2_ n3_;clear hb ho44))
        go_ret2
        exact ⟨_,by first | rfl | (simp [errW_none,errW_some] <;> rfl) | (simp [*, errW_none,errW_some] <;> rfl),by (with_reducible repeat (first | apply rA_ | apply rN_ | apply rD_));exact Kd.R_mono HO407.out (fun _ hk=>trivial),by exact bZ_ HB⟩
      ·replace c26:=Bool.eq_false_iff.mpr c26
       subst c26
       have H1 : (some ((([] : List (S116))),false)) = some (r1,r2):=by rw [if_neg (show ¬ (false = true) by decide)] at H;exact H
       clear H
       have H:=H1
       clear H1
       obtain ⟨y408,hy408⟩ : ∃ y_ : List (S116),y_ = (([] : List (S116))):=⟨_,rfl⟩
       replace H : (some (y408,false)) = some (r1,r2):=by first | (rw [hy408];with_reducible exact H) | (have H2_:=(Option.bind_some _ _).symm.trans H;rw [hy408];with_reducible exact H2_) | (have H2_:=(Option.bind_some _ _).symm.trans H;with_reducible exact H2_) | with_reducible exact H | (rw [hy408];exact H) | exact H
       have Ny408:=aM_ hy408
       clear hy408
       simp only [Option.some.injEq,Prod.mk.injEq] at H
       obtain ⟨rfl,rfl⟩:=H
       go_wp2_with (first | ((with_reducible refine gate_dst (N:=82) rfl ?_);(try (refine gate_guard (by rfl) ?_;dsimp only));refine Kd.R_lit k116 _ 116 ?hg (N:=82) ?hd (xs:=([] : List (S116))) (inner:=[]) (ok:=fun _=>True) (okp:=fun _=>True) ?hr ?hp (fun _ hk=>hk) trivial (Below.refl _ _) (Nat.le_refl _) (by simp) ?_;(case hd=>rfl);(case hg=>rfl);(case hr=>first | (go_simp;done) | (go_simp;rfl));(case hp=>exact (Reps.none _ _));intro v409 w45 ho46 hb hg_ hnew_;clear hg_ hnew_;(first | rw [← Ny408.out] at ho46 | (simp only [Int.reduceToNat] at ho46;rw [← Ny408.out] at ho46));have n0_:=aM_ (Kd.R_below (by exact rZ_ HO_6) hb);have n1_:=aM_ (Kd.R_elder' (by exact rZ_ HO_11) (Kd.R_base ho46) hb);have n2_:=aM_ (Kd.R_lower (Kd.R_new' ho46 (Kd.R_lt (by exact rZ_ HO_11))) (bS_ (by exact bZ_ HB)));have n3_:=aM_ (bT_ (by exact bZ_ HB) hb);clear HO_6;clear HO_11;clear HB;have HO_6:=n0_;have HO_11:=n1_;have HO410:=n2_;have HB:=n3_;clear n0_ n1_ n2_ n3_;clear hb ho46))
       go_ret2
       exact ⟨_,by first | rfl | (simp [errW_none,errW_some] <;> rfl) | (simp [*, errW_none,errW_some] <;> rfl),by (with_reducible repeat (first | apply rA_ | apply rN_ | apply rD_));exact Kd.R_mono HO410.out (fun _ hk=>trivial),by exact bZ_ HB⟩
end Go.Proofs.Ytllgmgpfdnofmaa.PFnRowsRead
