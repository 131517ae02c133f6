import Derived.Test.YtllgmgpfdnofmaaZSDPFnExactSameDefx0
import Derived.Test.YtllgmgpfdnofmaaZSDPFnExactSameDefx2
namespace Go.Proofs.Ytllgmgpfdnofmaa.PFnExactSameDef
open Go.RowKit Go.Proofs.YtllgmgpfdnofmaaW.PrintWords Go.Proofs.YtllgmgpfdnofmaaW.PrintLast Go.Proofs.YtllgmgpfdnofmaaW.PrintMore Go.Proofs.Ytllgmgpfdnofmaa.Xtra
attribute [local go_sem] max2_int min2_int max_two min_two max_three min_three max_four min_four str_leq str_gtr str_geq setCell_drewN cell_set2 cell_set3   -- for this text's walks alone
set_option linter.unusedVariables false
set_option linter.unusedSimpArgs false
attribute [local go_sem high] eqA184
def laws_toCol.f (a0_0 : ByteArray) (a0_1 : Int) (a0_2 : Bool) : Option (ByteArray × Int × Bool):=some (a0_0,a0_1,a0_2)
set_option maxHeartbeats 8000000 in
set_option maxRecDepth 100000 in
theorem laws_toCol.calls (a0_0 : ByteArray) (a0_1 : Int) (a0_2 : Bool) (r1 : ByteArray) (r2 : Int) (r3 : Bool) (w : World) (h : laws_toCol.f a0_0 a0_1 a0_2 = some (r1,r2,r3)) :
  Calls Try.prog 173 #[.agg #[.string a0_0,.int .i64 a0_1,.bool a0_2]] w fun e w'=>e = .returned (.agg #[.string r1,.int .i64 r2,.bool r3]) ∧ Below w.heap.size w w':=by
 have hu179:=Try.underlying179
 have hu146:=Try.underlying146
 have HB:=aM_ (Below.refl w.heap.size w)
 have H : (some (a0_0,a0_1,a0_2)) = some (r1,r2,r3):=h
 clear h
 simp only [Option.some.injEq,Prod.mk.injEq] at H
 obtain ⟨rfl,rfl,rfl⟩:=H
 go_enter Try.func173,Try.ntmps173
 go_wp2_with (first | ((with_reducible refine gate_dst (N:=1) rfl ?_);refine box_event ?hg (N:=1) ?hd (cs:=#[.string a0_0,.int .i64 a0_1,.bool a0_2]) (t:=179) ?hr ?_;(case hd=>rfl);(case hg=>rfl);(case hr=>first | (go_simp;done) | (go_simp;rfl));intro gb124 hg w2 hbox hb;have n0_:=aM_ (bT_ (by exact bZ_ HB) hb);have n1_:=aM_ (hbox);have n2_:=aM_ ((by rw [hg];exact (bS_ (by exact bZ_ HB)) : w.heap.size ≤ gb124));have n3_:=aM_ ((by rw [hg];exact (bS_ (by exact bZ_ HB)) : w.heap.size ≤ gb124));clear HB;have HB:=n0_;have BK124:=n1_;have GW124:=n2_;have GE124:=n3_;clear n0_ n1_ n2_ n3_ hb hbox hg) | ((with_reducible refine gate_dst (N:=2) rfl ?_);refine box_event ?hg (N:=2) ?hd (cs:=#[.string (⟨#[]⟩ : ByteArray),.int .i64 0,.bool false]) (t:=146) ?hr ?_;(case hd=>rfl);(case hg=>rfl);(case hr=>first | (go_simp;done) | (go_simp;rfl));intro gb125 hg w3 hbox hb;have n0_:=aM_ (blk_below (g:=gb124) (o:=.cells #[.string a0_0,.int .i64 a0_1,.bool a0_2] 179 (0,0)) (by exact kZ_ BK124) hb);have n1_:=aM_ (bT_ (by exact bZ_ HB) hb);have n2_:=aM_ (hbox);have n3_:=aM_ ((by rw [hg];exact (bS_ (by exact bZ_ HB)) : w.heap.size ≤ gb125));have n4_:=aM_ ((by rw [hg];exact (bS_ (by exact bZ_ HB)) : w.heap.size ≤ gb125));have n5_:=aM_ ((by rw [hg];exact nN_ (blk_lt (g:=gb124) (o:=.cells #[.string a0_0,.int .i64 a0_1,.bool a0_2] 179 (0,0)) (by exact kZ_ BK124)) : gb124 ≠ gb125));have n6_:=aM_ ((by rw [hg];exact Nat.ne_of_gt (blk_lt (g:=gb124) (o:=.cells #[.string a0_0,.int .i64 a0_1,.bool a0_2] 179 (0,0)) (by exact kZ_ BK124)) : gb125 ≠ gb124));clear BK124 HB;have BK124:=n0_;have HB:=n1_;have BK125:=n2_;have GW125:=n3_;have GE125:=n4_;have NB124_125:=n5_;have NB125_124:=n6_;clear n0_ n1_ n2_ n3_ n4_ n5_ n6_ hb hbox hg) | ((with_reducible refine gate_dst (N:=3) rfl ?_);refine box_event ?hg (N:=3) ?hd (cs:=#[.string (⟨#[]⟩ : ByteArray),.int .i64 0,.bool false]) (t:=146) ?hr ?_;(case hd=>rfl);(case hg=>rfl);(case hr=>first | (go_simp;done) | (go_simp;rfl));intro gb126 hg w4 hbox hb;have n0_:=aM_ (blk_below (g:=gb124) (o:=.cells #[.string a0_0,.int .i64 a0_1,.bool a0_2] 179 (0,0)) (by exact kZ_ BK124) hb);have n1_:=aM_ (blk_below (g:=gb125) (o:=.cells #[.string (⟨#[]⟩ : ByteArray),.int .i64 0,.bool false] 146 (0,0)) (by exact kZ_ BK125) hb);have n2_:=aM_ (bT_ (by exact bZ_ HB) hb);have n3_:=aM_ (hbox);have n4_:=aM_ ((by rw [hg];exact (bS_ (by exact bZ_ HB)) : w.heap.size ≤ gb126));have n5_:=aM_ ((by rw [hg];exact (bS_ (by exact bZ_ HB)) : w.heap.size ≤ gb126));have n6_:=aM_ ((by rw [hg];exact nN_ (blk_lt (g:=gb124) (o:=.cells #[.string a0_0,.int .i64 a0_1,.bool a0_2] 179 (0,0)) (by exact kZ_ BK124)) : gb124 ≠ gb126));have n7_:=aM_ ((by rw [hg];exact Nat.ne_of_gt (blk_lt (g:=gb124) (o:=.cells #[.string a0_0,.int .i64 a0_1,.bool a0_2] 179 (0,0)) (by exact kZ_ BK124)) : gb126 ≠ gb124));have n8_:=aM_ ((by rw [hg];exact nN_ (blk_lt (g:=gb125) (o:=.cells #[.string (⟨#[]⟩ : ByteArray),.int .i64 0,.bool false] 146 (0,0)) (by exact kZ_ BK125)) : gb125 ≠ gb126));have n9_:=aM_ ((by rw [hg];exact Nat.ne_of_gt (blk_lt (g:=gb125) (o:=.cells #[.string (⟨#[]⟩ : ByteArray),.int .i64 0,.bool false] 146 (0,0)) (by exact kZ_ BK125)) : gb126 ≠ gb125));clear BK124 BK125 HB;have BK124:=n0_;have BK125:=n1_;have HB:=n2_;have BK126:=n3_;have GW126:=n4_;have GE126:=n5_;have NB124_126:=n6_;have NB126_124:=n7_;have NB125_126:=n8_;have NB126_125:=n9_;clear n0_ n1_ n2_ n3_ n4_ n5_ n6_ n7_ n8_ n9_ hb hbox hg;have hnb5:=NB124_125.out;have hnc5:=NB125_124.out;have hnb6:=NB124_126.out;have hnc6:=NB126_124.out;have hcz7_0 : w4.cell? ⟨gb124,0,none⟩ = some (.string a0_0):=(kC_ BK124.out 0).trans rfl;have hcz7_1 : w4.cell? ⟨gb124,1,none⟩ = some (.int .i64 a0_1):=(kC_ BK124.out 1).trans rfl;have hcz7_2 : w4.cell? ⟨gb124,2,none⟩ = some (.bool a0_2):=(kC_ BK124.out 2).trans rfl;have hfz7_0:=kF_ BK124.out 0;have hfz7_1:=kF_ BK124.out 1;have hfz7_2:=kF_ BK124.out 2;have hnb8:=NB126_125.out;have hnc8:=NB125_126.out;have hcz9_0 : w4.cell? ⟨gb126,0,none⟩ = some (.string (⟨#[]⟩ : ByteArray)):=(kC_ BK126.out 0).trans rfl;have hcz9_1 : w4.cell? ⟨gb126,1,none⟩ = some (.int .i64 0):=(kC_ BK126.out 1).trans rfl;have hcz9_2 : w4.cell? ⟨gb126,2,none⟩ = some (.bool false):=(kC_ BK126.out 2).trans rfl;have hfz9_0:=kF_ BK126.out 0;have hfz9_1:=kF_ BK126.out 1;have hfz9_2:=kF_ BK126.out 2;have hcz10_0 : w4.cell? ⟨gb125,0,none⟩ = some (.string (⟨#[]⟩ : ByteArray)):=(kC_ BK125.out 0).trans rfl;have hcz10_1 : w4.cell? ⟨gb125,1,none⟩ = some (.int .i64 0):=(kC_ BK125.out 1).trans rfl;have hcz10_2 : w4.cell? ⟨gb125,2,none⟩ = some (.bool false):=(kC_ BK125.out 2).trans rfl;have hfz10_0:=kF_ BK125.out 0;have hfz10_1:=kF_ BK125.out 1;have hfz10_2:=kF_ BK125.out 2))
 refine bodyPost_ret (results_cell_row rfl _ _ gb125 146 #[.string a0_0,.int .i64 a0_1,.bool a0_2] (0,0) _ rfl (by (with_reducible repeat (first | refine kN_ ?_ _ | refine kD_ ?_ | refine kA_ ?_ _));refine kP_ (cs:=#[.string a0_0,.int .i64 a0_1,.bool false]) ?_ 2 _ rfl;(with_reducible repeat (first | refine kN_ ?_ _ | refine kD_ ?_ | refine kA_ ?_ _));refine kP_ (cs:=#[.string a0_0,.int .i64 0,.bool false]) ?_ 1 _ rfl;(with_reducible repeat (first | refine kN_ ?_ _ | refine kD_ ?_ | refine kA_ ?_ _));refine kP_ (cs:=#[.string (⟨#[]⟩ : ByteArray),.int .i64 0,.bool false]) ?_ 0 _ rfl;exact kW_ BK125) Try.underlying146 rfl (by kernel_rfl)) rfl ?_
 exact ⟨by first | rfl | (simp [errW_none,errW_some] <;> rfl) | (simp [*, errW_none,errW_some] <;> rfl),by exact bZ_ HB⟩
def laws_toColS.l0 : Nat → List (S179) → List (S146) → Int → Option ((List (S146)))
 | 0,_,_,_=>none
 | k + 1,x0,x3,x4=>if x4 < (x0.length : Int) then (if 0 ≤ x4 then ((laws_toCol.f ((rd_T179 x0 x4).f0) ((rd_T179 x0 x4).f1) ((rd_T179 x0 x4).f2)).bind fun bt131=>(if x4 < (x3.length : Int) then (laws_toColS.l0 k x0 (x3.set (x4 : Int).toNat (⟨bt131.1,bt131.2.1,bt131.2.2⟩ : S146)) (wrap64 (x4 + 1))) else (none))) else (none)) else (some x3)
def laws_toColS.f (k : Nat) (l0 : List (S179)) : Option ((List (S146))):=if 0 ≤ (l0.length : Int) then (if ((l0.length : Int) : Int).toNat ≤ 8796093022208 then (laws_toColS.l0 k l0 (List.replicate ((l0.length : Int) : Int).toNat z146) 0) else (none)) else (none)
theorem laws_toColS.mono_l : ∀ k,(∀ y0 y1 y2,LeO (laws_toColS.l0 k y0 y1 y2) (laws_toColS.l0 (k + 1) y0 y1 y2))
 | 0=>fun _ _ _ r h=>by simp [laws_toColS.l0] at h
 | k + 1=>by
  have ih0:=laws_toColS.mono_l k
  ·intro y0 y1 y2
   unfold laws_toColS.l0
   repeat' first
   | (with_reducible exact ih0 _ _ _)
   | (with_reducible exact LeO.refl _)
   | (with_reducible exact LeO.none _)
   | (with_reducible refine LeO.ite ?_ ?_)
   | (with_reducible refine LeO.bind ?_ (fun _=>?_))
   | exact ih0 _ _ _
   | exact LeO.none _
   | refine LeO.ite ?_ ?_
   | refine LeO.bind ?_ (fun _=>?_)
theorem laws_toColS.mono : ∀ a0 k,LeO (laws_toColS.f k a0) (laws_toColS.f (k + 1) a0):=by
 intro a0 k
 have ih0:=laws_toColS.mono_l k
 unfold laws_toColS.f
 repeat' first
   | (with_reducible exact ih0 _ _ _)
   | (with_reducible exact LeO.refl _)
   | (with_reducible exact LeO.none _)
   | (with_reducible refine LeO.ite ?_ ?_)
   | (with_reducible refine LeO.bind ?_ (fun _=>?_))
   | exact ih0 _ _ _
   | exact LeO.none _
   | refine LeO.ite ?_ ?_
   | refine LeO.bind ?_ (fun _=>?_)
set_option maxHeartbeats 8000000 in
set_option maxRecDepth 100000 in
theorem laws_toColS.calls (k : Nat) (A0 : Option Addr) (c0 : Nat) (l0 : List (S179)) (r : List (S146)) (w : World) (hr0 : Kd.C k179 w A0 l0.length l0) (hc0 : l0.length ≤ c0) (h : laws_toColS.f k l0 = some r) :
  Calls Try.prog 137 #[.slice A0 l0.length c0] w fun e w'=>∃ v0_ : Value,e = .returned (v0_) ∧ Kd.R k146 146 w' w.heap.size (fun _=>True) v0_ r ∧ Below w.heap.size w w':=by
 have hu179:=Try.underlying179
 have hu146:=Try.underlying146
 have HR0:=aM_ hr0
 have HC0:=aM_ hc0
 clear hr0 hc0
 have HB:=aM_ (Below.refl w.heap.size w)
 have H : (if 0 ≤ (l0.length : Int) then (if ((l0.length : Int) : Int).toNat ≤ 8796093022208 then (laws_toColS.l0 k l0 (List.replicate ((l0.length : Int) : Int).toNat z146) 0) else (none)) else (none)) = some r:=h
 clear h
 by_cases c2 : 0 ≤ (l0.length : Int)
 ·rw [if_pos c2] at H
  have c2b0:=eq_true c2
  have c2b1 : decide (0 ≤ (l0.length : Int)) = true:=decide_eq_true c2
  clear c2
  by_cases c3 : ((l0.length : Int) : Int).toNat ≤ 8796093022208
  ·rw [if_pos c3] at H
   have c3b0:=eq_true c3
   have c3b1 : decide (((l0.length : Int) : Int).toNat ≤ 8796093022208) = true:=decide_eq_true c3
   clear c3
   obtain ⟨y127,hy127⟩ : ∃ y_ : List (S146),y_ = (List.replicate ((l0.length : Int) : Int).toNat z146):=⟨_,rfl⟩
   replace H : (laws_toColS.l0 k l0 y127 0) = some r:=by first | (rw [hy127];with_reducible exact H) | (have H2_:=(Option.bind_some _ _).symm.trans H;rw [hy127];with_reducible exact H2_) | (have H2_:=(Option.bind_some _ _).symm.trans H;with_reducible exact H2_) | with_reducible exact H | (rw [hy127];exact H) | exact H
   have Ny127:=aM_ hy127
   clear hy127
   have H':=aM_ H
   clear H
   go_enter Try.func137,Try.ntmps137
   go_wp2_with (first | ((with_reducible refine gate_dst (N:=7) rfl ?_);refine Kd.R_make k146 _ 146 rfl (N:=7) rfl 83 _ _ rfl (l0.length : Int) rfl rfl Try.underlying83 (.agg #[(.string ⟨#[]⟩),(.int .i64 0),(.bool false)]) 32 info146 rfl (by decide) (by omega) z146 (ok:=fun _=>True) (okp:=fun _=>True) (k146_mkM _ _ _ z146 ) (fun _ hk=>hk) trivial (oT_ (by first | (with_reducible assumption) | assumption)) (Nat.le_trans (Nat.mul_le_mul_right _ (oT_ (by first | (with_reducible assumption) | assumption) : (l0.length : Int).toNat ≤ 8796093022208)) (by omega)) (Below.refl _ _) (Nat.le_refl _) ?_;intro v128 w4 ho5 hb hg_ hnew_;clear hg_ hnew_;(first | rw [← Ny127.out] at ho5 | (simp only [Int.reduceToNat] at ho5;rw [← Ny127.out] at ho5));have n0_:=aM_ (Kd.R_lower ho5 (bS_ (by exact bZ_ HB)));have n1_:=aM_ (bT_ (by exact bZ_ HB) hb);clear HB;have HO129:=n0_;have HB:=n1_;clear n0_ n1_ hb ho5))
   (try simp only [Act.put,sI_,sS_,sZ_])
   go_loopg [4] k (fun kq v4 w'=>∃ (x3_1 : List (S146)) (x4_1 : Int),v4 = .int .i64 x4_1 ∧ Aside0 (laws_toColS.l0 kq l0 x3_1 x4_1 = some r) ∧ Aside0 (kq ≤ k) ∧ Aside0 (Kd.R k146 146 w' w.heap.size (fun _=>True) v128 x3_1) ∧ Aside0 (Below w.heap.size w w'))
   case atStart=>exact ⟨(y127),(0),(by first | rfl | (simp;done) | (simp [*];done)),H', ⟨Nat.le_refl _⟩,⟨by exact rZ_ HO129⟩,⟨by exact bZ_ HB⟩⟩
   case round =>
    clear H'
    clear c2b0 c2b1 c3b0 c3b1
    obtain ⟨x3_1,x4_1,rfl,HA,HK1,HO_3,HB⟩:=hrel
    cases gk with
    | zero=>exact absurd HA.out (by simp [laws_toColS.l0])
    | succ k1 =>
     have H:=HA.out
     clear HA
     simp only [laws_toColS.l0] at H
     by_cases c6 : x4_1 < (l0.length : Int)
     ·rw [if_pos c6] at H
      have c6b0 : decide (x4_1 < (l0.length : Int)) = true:=decide_eq_true c6
      clear c6
      by_cases c7 : 0 ≤ x4_1
      ·rw [if_pos c7] at H
       have c7b0 : decide (0 ≤ x4_1) = true:=decide_eq_true c7
       clear c7
       replace H:=oB_ H
       obtain ⟨⟨t131,t132,t133⟩,A80,H⟩:=H
       replace H : (if x4_1 < (x3_1.length : Int) then (laws_toColS.l0 k1 l0 (x3_1.set (x4_1 : Int).toNat (⟨t131,t132,t133⟩ : S146)) (wrap64 (x4_1 + 1))) else (none)) = some r:=H
       have A8:=aM_ A80
       clear A80
       by_cases c9 : x4_1 < (x3_1.length : Int)
       ·rw [if_pos c9] at H
        have c9b0 : decide (x4_1 < (x3_1.length : Int)) = true:=decide_eq_true c9
        clear c9
        obtain ⟨y134,hy134⟩ : ∃ y_ : List (S146),y_ = (x3_1.set (x4_1 : Int).toNat (⟨t131,t132,t133⟩ : S146)):=⟨_,rfl⟩
        replace H : (laws_toColS.l0 k1 l0 y134 (wrap64 (x4_1 + 1))) = some r:=by first | (rw [hy134];with_reducible exact H) | (have H2_:=(Option.bind_some _ _).symm.trans H;rw [hy134];with_reducible exact H2_) | (have H2_:=(Option.bind_some _ _).symm.trans H;with_reducible exact H2_) | with_reducible exact H | (rw [hy134];exact H) | exact H
        have Ny134:=aM_ hy134
        clear hy134
        have H':=aM_ H
        clear H
        have p130 : 0 ≤ (x4_1 : Int):=oT_ (by first | (with_reducible assumption) | assumption)
        have q130 : x4_1 < (l0.length : Int):=oT_ (by first | (with_reducible assumption) | assumption)
        obtain ⟨ad130,e130,hx130_0,hx130_1,hx130_2⟩:=at_T179 HR0.out x4_1 p130 q130
        cases e130
        replace hx130_0:=(HB.out.cell (wL_ w _ hx130_0)).trans hx130_0
        replace hx130_1:=(HB.out.cell (wL_ w _ hx130_1)).trans hx130_1
        replace hx130_2:=(HB.out.cell (wL_ w _ hx130_2)).trans hx130_2
        replace p130:=eq_true p130
        replace q130:=eq_true q130
        go_wp2_with (first | ((with_reducible refine gate_callee (f:=173) rfl ?_);refine goesL_ (some 20) rfl rfl Try.func173 (by kernel_rfl) rfl #[.agg #[.string ((rd_T179 l0 x4_1).f0),.int .i64 ((rd_T179 l0 x4_1).f1),.bool ((rd_T179 l0 x4_1).f2)]] rfl (by (try simp only [mA_,mC_,mN_]);first | done | rfl | (simp only [lD_,lT_];rfl)) ?_;(with_reducible refine (laws_toCol.calls ((rd_T179 l0 x4_1).f0) ((rd_T179 l0 x4_1).f1) ((rd_T179 l0 x4_1).f2) t131 t132 t133 _ A8.out).mono ?_);rintro e w11 ⟨rfl,hb⟩;refine ⟨_,rfl,?_⟩;have n0_:=aM_ (Kd.R_below (by exact rZ_ HO_3) hb);have n1_:=aM_ (bT_ (by exact bZ_ HB) hb);clear HO_3 HB;have HO_3:=n0_;have HB:=n1_;clear n0_ n1_ hb;have p10 : 0 ≤ (x4_1 : Int):=oT_ (by first | (with_reducible assumption) | assumption);have q10 : (x4_1 : Int) < ((x3_1.length : Int) : Int):=oT_ (by first | (with_reducible assumption) | assumption);obtain ⟨go10,co10,eo10,gb10,gl10,cl10,HG10⟩:=Kd.R_form HO_3.out (by omega);(first | cases eo10 | (injection eo10 with ea_ en_ ec_;(first | subst ea_ | (injection ea_ with ea_;subst ea_));subst ec_;clear en_));have GB10:=aM_ gb10;have GG10:=aM_ HG10;clear gb10 gl10 HG10;obtain ⟨ce10,hcl10,hM10,hcc10,hfr10⟩:=Kd.R_elem HO_3.out z146 (x4_1 : Int) p10 q10;obtain rfl:=k146_openM hM10;have hx10_0 : w11.cell? ⟨go10,(x4_1 : Int).toNat * 3,none⟩ = some (.string ((rd_T146 x3_1 x4_1).f0)):=hcc10 0 _ rfl;have hx10_1 : w11.cell? ⟨go10,(x4_1 : Int).toNat * 3 + 1,none⟩ = some (.int .i64 ((rd_T146 x3_1 x4_1).f1)):=hcc10 1 _ rfl;have hx10_2 : w11.cell? ⟨go10,(x4_1 : Int).toNat * 3 + 2,none⟩ = some (.bool ((rd_T146 x3_1 x4_1).f2)):=hcc10 2 _ rfl;have hf10_0 : w11.frozen? ⟨go10,(x4_1 : Int).toNat * 3,none⟩ = false:=hfr10 0;have hf10_1 : w11.frozen? ⟨go10,(x4_1 : Int).toNat * 3 + 1,none⟩ = false:=hfr10 1;have hf10_2 : w11.frozen? ⟨go10,(x4_1 : Int).toNat * 3 + 2,none⟩ = false:=hfr10 2;clear hM10 hcl10 hcc10 hfr10;replace p10:=eq_true p10;replace q10:=eq_true q10;have HX12:=aM_ (show Kd.R k146 146 w11 w.heap.size (fun _=>True) (.slice (some ⟨go10,0,none⟩) x3_1.length co10) x3_1 from (by exact rZ_ HO_3));obtain ⟨ce12,hcl12,hM12,hcc12,hfr12⟩:=Kd.R_elem HX12.out z146 (x4_1 : Int) (oT_ (by first | (with_reducible assumption) | assumption)) (by have h_ : (x4_1 : Int) < ((x3_1.length : Int) : Int):=oT_ (by first | (with_reducible assumption) | assumption);first | exact h_ | (have e_:=(Kd.R_reads' HO_3.out).1;omega) | simpa using h_);obtain rfl:=k146_openM hM12;have HP12:=Kd.R_seg HX12.out (x4_1 : Int) (oT_ (by first | (with_reducible assumption) | assumption)) (by have h_ : (x4_1 : Int) < ((x3_1.length : Int) : Int):=oT_ (by first | (with_reducible assumption) | assumption);first | exact h_ | (have e_:=(Kd.R_reads' HO_3.out).1;omega) | simpa using h_) (seg:=[.string t131,.int .i64 t132,.bool t133]) (j:=0) hcl12 hcc12 (show 3 ≤ 3 from by decide) (x':=(⟨t131,t132,t133⟩ : S146)) (k146_mkM _ _ _ (⟨t131,t132,t133⟩ : S146) ) (fun _ hk=>hk);have hx12_0:=hcc12 0 _ rfl;(try simp only [show (k146).sz = 3 from rfl,Nat.mul_one,Nat.add_zero] at hx12_0);have hf12_0:=hfr12 0;(try simp only [show (k146).sz = 3 from rfl,Nat.mul_one,Nat.add_zero] at hf12_0);have hx12_1:=hcc12 1 _ rfl;(try simp only [show (k146).sz = 3 from rfl,Nat.mul_one,Nat.add_zero] at hx12_1);have hf12_1:=hfr12 1;(try simp only [show (k146).sz = 3 from rfl,Nat.mul_one,Nat.add_zero] at hf12_1);have hx12_2:=hcc12 2 _ rfl;(try simp only [show (k146).sz = 3 from rfl,Nat.mul_one,Nat.add_zero] at hx12_2);have hf12_2:=hfr12 2;(try simp only [show (k146).sz = 3 from rfl,Nat.mul_one,Nat.add_zero] at hf12_2);clear hM12 hcl12 hcc12 hfr12) | ((with_reducible refine gate_store (t:=146) (p:=21) rfl ?_);refine store_event (t:=146) (p:=21) (v:=?vo_w13) (w1:=(((w11.setCell ⟨go10,(x4_1 : Int).toNat * 3,none⟩ (.string t131)).setCell ⟨go10,(x4_1 : Int).toNat * 3 + 1,none⟩ (.int .i64 t132)).setCell ⟨go10,(x4_1 : Int).toNat * 3 + 2,none⟩ (.bool t133))) ?hg ?ho ?hn ?hr ?_;(case ho=>rfl);(case hg=>rfl);(case hn=>rfl);(case hr=>first | (go_simp;done) | (go_simp;rfl));intro w13 hw;have hg : w11.grownBy w13 (some go10):=(by rw [hw];exact HP12.2);have hp_ : Kd.R k146 146 w13 w.heap.size (fun _=>True) (.slice (some ⟨go10,0,none⟩) x3_1.length co10) y134:=(by rw [hw,Ny134.out];exact HP12.1);clear HP12;have n0_:=aM_ (hp_);have n1_:=aM_ ((by rw [hw];exact bE_ (bE_ (bE_ (HB.out) GB10.out) GB10.out) GB10.out : Below w.heap.size w w13));clear HO_3 HB;have HO_3:=n0_;have HB:=n1_;clear n0_ n1_ hg hw hp_))
        go_roundg k1
        case measure=>have:=HK1.out;omega
        case rel=>exact ⟨(y134),(wrap64 (x4_1 + 1)),(by first | rfl | (simp;done) | (simp [*];done)),H', ⟨by have:=HK1.out;omega⟩,⟨by exact rZ_ HO_3⟩,⟨by exact bZ_ HB⟩⟩
       ·rw [if_neg c9] at H
        exact absurd H (by simp)
      ·rw [if_neg c7] at H
       exact absurd H (by simp)
     ·rw [if_neg c6] at H
      have c6b0 : decide (x4_1 < (l0.length : Int)) = false:=decide_eq_false c6
      clear c6
      obtain rfl:=Option.some.inj H
      go_wp2
      go_ret
      exact ⟨_,by first | rfl | (simp [errW_none,errW_some] <;> rfl) | (simp [*, errW_none,errW_some] <;> rfl),by exact rZ_ HO_3,by exact bZ_ HB⟩
  ·rw [if_neg c3] at H
   exact absurd H (by simp)
 ·rw [if_neg c2] at H
  exact absurd H (by simp)
def laws_toBy.f (a0_0 : Int) (a0_1 : Bool) : Option (Int × Bool):=some (a0_0,a0_1)
set_option maxHeartbeats 8000000 in
set_option maxRecDepth 100000 in
theorem laws_toBy.calls (a0_0 : Int) (a0_1 : Bool) (r1 : Int) (r2 : Bool) (w : World) (h : laws_toBy.f a0_0 a0_1 = some (r1,r2)) :
  Calls Try.prog 174 #[.agg #[.int .i64 a0_0,.bool a0_1]] w fun e w'=>e = .returned (.agg #[.int .i64 r1,.bool r2]) ∧ Below w.heap.size w w':=by
 have hu187:=Try.underlying187
 have hu184:=Try.underlying184
 have HB:=aM_ (Below.refl w.heap.size w)
 have H : (some (a0_0,a0_1)) = some (r1,r2):=h
 clear h
 simp only [Option.some.injEq,Prod.mk.injEq] at H
 obtain ⟨rfl,rfl⟩:=H
 go_enter Try.func174,Try.ntmps174
 go_wp2_with (first | ((with_reducible refine gate_dst (N:=1) rfl ?_);refine box_event ?hg (N:=1) ?hd (cs:=#[.int .i64 a0_0,.bool a0_1]) (t:=187) ?hr ?_;(case hd=>rfl);(case hg=>rfl);(case hr=>first | (go_simp;done) | (go_simp;rfl));intro gb135 hg w2 hbox hb;have n0_:=aM_ (bT_ (by exact bZ_ HB) hb);have n1_:=aM_ (hbox);have n2_:=aM_ ((by rw [hg];exact (bS_ (by exact bZ_ HB)) : w.heap.size ≤ gb135));have n3_:=aM_ ((by rw [hg];exact (bS_ (by exact bZ_ HB)) : w.heap.size ≤ gb135));clear HB;have HB:=n0_;have BK135:=n1_;have GW135:=n2_;have GE135:=n3_;clear n0_ n1_ n2_ n3_ hb hbox hg) | ((with_reducible refine gate_dst (N:=2) rfl ?_);refine box_event ?hg (N:=2) ?hd (cs:=#[.int .i64 0,.bool false]) (t:=184) ?hr ?_;(case hd=>rfl);(case hg=>rfl);(case hr=>first | (go_simp;done) | (go_simp;rfl));intro gb136 hg w3 hbox hb;have n0_:=aM_ (blk_below (g:=gb135) (o:=.cells #[.int .i64 a0_0,.bool a0_1] 187 (0,0)) (by exact kZ_ BK135) hb);have n1_:=aM_ (bT_ (by exact bZ_ HB) hb);have n2_:=aM_ (hbox);have n3_:=aM_ ((by rw [hg];exact (bS_ (by exact bZ_ HB)) : w.heap.size ≤ gb136));have n4_:=aM_ ((by rw [hg];exact (bS_ (by exact bZ_ HB)) : w.heap.size ≤ gb136));have n5_:=aM_ ((by rw [hg];exact nN_ (blk_lt (g:=gb135) (o:=.cells #[.int .i64 a0_0,.bool a0_1] 187 (0,0)) (by exact kZ_ BK135)) : gb135 ≠ gb136));have n6_:=aM_ ((by rw [hg];exact Nat.ne_of_gt (blk_lt (g:=gb135) (o:=.cells #[.int .i64 a0_0,.bool a0_1] 187 (0,0)) (by exact kZ_ BK135)) : gb136 ≠ gb135));clear BK135 HB;have BK135:=n0_;have HB:=n1_;have BK136:=n2_;have GW136:=n3_;have GE136:=n4_;have NB135_136:=n5_;have NB136_135:=n6_;clear n0_ n1_ n2_ n3_ n4_ n5_ n6_ hb hbox hg) | ((with_reducible refine gate_dst (N:=3) rfl ?_);refine box_event ?hg (N:=3) ?hd (cs:=#[.int .i64 0,.bool false]) (t:=184) ?hr ?_;(case hd=>rfl);(case hg=>rfl);(case hr=>first | (go_simp;done) | (go_simp;rfl));intro gb137 hg w4 hbox hb;have n0_:=aM_ (blk_below (g:=gb135) (o:=.cells #[.int .i64 a0_0,.bool a0_1] 187 (0,0)) (by exact kZ_ BK135) hb);have n1_:=aM_ (blk_below (g:=gb136) (o:=.cells #[.int .i64 0,.bool false] 184 (0,0)) (by exact kZ_ BK136) hb);have n2_:=aM_ (bT_ (by exact bZ_ HB) hb);have n3_:=aM_ (hbox);have n4_:=aM_ ((by rw [hg];exact (bS_ (by exact bZ_ HB)) : w.heap.size ≤ gb137));have n5_:=aM_ ((by rw [hg];exact (bS_ (by exact bZ_ HB)) : w.heap.size ≤ gb137));have n6_:=aM_ ((by rw [hg];exact nN_ (blk_lt (g:=gb135) (o:=.cells #[.int .i64 a0_0,.bool a0_1] 187 (0,0)) (by exact kZ_ BK135)) : gb135 ≠ gb137));have n7_:=aM_ ((by rw [hg];exact Nat.ne_of_gt (blk_lt (g:=gb135) (o:=.cells #[.int .i64 a0_0,.bool a0_1] 187 (0,0)) (by exact kZ_ BK135)) : gb137 ≠ gb135));have n8_:=aM_ ((by rw [hg];exact nN_ (blk_lt (g:=gb136) (o:=.cells #[.int .i64 0,.bool false] 184 (0,0)) (by exact kZ_ BK136)) : gb136 ≠ gb137));have n9_:=aM_ ((by rw [hg];exact Nat.ne_of_gt (blk_lt (g:=gb136) (o:=.cells #[.int .i64 0,.bool false] 184 (0,0)) (by exact kZ_ BK136)) : gb137 ≠ gb136));clear BK135 BK136 HB;have BK135:=n0_;have BK136:=n1_;have HB:=n2_;have BK137:=n3_;have GW137:=n4_;have GE137:=n5_;have NB135_137:=n6_;have NB137_135:=n7_;have NB136_137:=n8_;have NB137_136:=n9_;clear n0_ n1_ n2_ n3_ n4_ n5_ n6_ n7_ n8_ n9_ hb hbox hg;have hnb5:=NB135_136.out;have hnc5:=NB136_135.out;have hnb6:=NB135_137.out;have hnc6:=NB137_135.out;have hcz7_0 : w4.cell? ⟨gb135,0,none⟩ = some (.int .i64 a0_0):=(kC_ BK135.out 0).trans rfl;have hcz7_1 : w4.cell? ⟨gb135,1,none⟩ = some (.bool a0_1):=(kC_ BK135.out 1).trans rfl;have hfz7_0:=kF_ BK135.out 0;have hfz7_1:=kF_ BK135.out 1;have hnb8:=NB137_136.out;have hnc8:=NB136_137.out;have hcz9_0 : w4.cell? ⟨gb137,0,none⟩ = some (.int .i64 0):=(kC_ BK137.out 0).trans rfl;have hcz9_1 : w4.cell? ⟨gb137,1,none⟩ = some (.bool false):=(kC_ BK137.out 1).trans rfl;have hfz9_0:=kF_ BK137.out 0;have hfz9_1:=kF_ BK137.out 1;have hcz10_0 : w4.cell? ⟨gb136,0,none⟩ = some (.int .i64 0):=(kC_ BK136.out 0).trans rfl;have hcz10_1 : w4.cell? ⟨gb136,1,none⟩ = some (.bool false):=(kC_ BK136.out 1).trans rfl;have hfz10_0:=kF_ BK136.out 0;have hfz10_1:=kF_ BK136.out 1))
 refine bodyPost_ret (results_cell_row rfl _ _ gb136 184 #[.int .i64 a0_0,.bool a0_1] (0,0) _ rfl (by (with_reducible repeat (first | refine kN_ ?_ _ | refine kD_ ?_ | refine kA_ ?_ _));refine kP_ (cs:=#[.int .i64 a0_0,.bool false]) ?_ 1 _ rfl;(with_reducible repeat (first | refine kN_ ?_ _ | refine kD_ ?_ | refine kA_ ?_ _));refine kP_ (cs:=#[.int .i64 0,.bool false]) ?_ 0 _ rfl;exact kW_ BK136) Try.underlying184 rfl (by kernel_rfl)) rfl ?_
 exact ⟨by first | rfl | (simp [errW_none,errW_some] <;> rfl) | (simp [*, errW_none,errW_some] <;> rfl),by exact bZ_ HB⟩
def laws_toByS.l0 : Nat → List (S187) → List (S184) → Int → Option ((List (S184)))
 | 0,_,_,_=>none
 | k + 1,x0,x3,x4=>if x4 < (x0.length : Int) then (if 0 ≤ x4 then ((laws_toBy.f ((rd_T187 x0 x4).f0) ((rd_T187 x0 x4).f1)).bind fun bt142=>(if x4 < (x3.length : Int) then (laws_toByS.l0 k x0 (x3.set (x4 : Int).toNat (⟨bt142.1,bt142.2⟩ : S184)) (wrap64 (x4 + 1))) else (none))) else (none)) else (some x3)
def laws_toByS.f (k : Nat) (l0 : List (S187)) : Option ((List (S184))):=if 0 ≤ (l0.length : Int) then (if ((l0.length : Int) : Int).toNat ≤ 17592186044416 then (laws_toByS.l0 k l0 (List.replicate ((l0.length : Int) : Int).toNat z184) 0) else (none)) else (none)
theorem laws_toByS.mono_l : ∀ k,(∀ y0 y1 y2,LeO (laws_toByS.l0 k y0 y1 y2) (laws_toByS.l0 (k + 1) y0 y1 y2))
 | 0=>fun _ _ _ r h=>by simp [laws_toByS.l0] at h
 | k + 1=>by
  have ih0:=laws_toByS.mono_l k
  ·intro y0 y1 y2
   unfold laws_toByS.l0
   repeat' first
   | (with_reducible exact ih0 _ _ _)
   | (with_reducible exact LeO.refl _)
   | (with_reducible exact LeO.none _)
   | (with_reducible refine LeO.ite ?_ ?_)
   | (with_reducible refine LeO.bind ?_ (fun _=>?_))
   | exact ih0 _ _ _
   | exact LeO.none _
   | refine LeO.ite ?_ ?_
   | refine LeO.bind ?_ (fun _=>?_)
theorem laws_toByS.mono : ∀ a0 k,LeO (laws_toByS.f k a0) (laws_toByS.f (k + 1) a0):=by
 intro a0 k
 have ih0:=laws_toByS.mono_l k
 unfold laws_toByS.f
 repeat' first
   | (with_reducible exact ih0 _ _ _)
   | (with_reducible exact LeO.refl _)
   | (with_reducible exact LeO.none _)
   | (with_reducible refine LeO.ite ?_ ?_)
   | (with_reducible refine LeO.bind ?_ (fun _=>?_))
   | exact ih0 _ _ _
   | exact LeO.none _
   | refine LeO.ite ?_ ?_
   | refine LeO.bind ?_ (fun _=>?_)
set_option maxHeartbeats 8000000 in
set_option maxRecDepth 100000 in
theorem laws_toByS.calls (k : Nat) (A0 : Option Addr) (c0 : Nat) (l0 : List (S187)) (r : List (S184)) (w : World) (hr0 : Kd.C k187 w A0 l0.length l0) (hc0 : l0.length ≤ c0) (h : laws_toByS.f k l0 = some r) :
  Calls Try.prog 138 #[.slice A0 l0.length c0] w fun e w'=>∃ v0_ : Value,e = .returned (v0_) ∧ Kd.R k184 184 w' w.heap.size (fun _=>True) v0_ r ∧ Below w.heap.size w w':=by
 have hu187:=Try.underlying187
 have hu184:=Try.underlying184
 have HR0:=aM_ hr0
 have HC0:=aM_ hc0
 clear hr0 hc0
 have HB:=aM_ (Below.refl w.heap.size w)
 have H : (if 0 ≤ (l0.length : Int) then (if ((l0.length : Int) : Int).toNat ≤ 17592186044416 then (laws_toByS.l0 k l0 (List.replicate ((l0.length : Int) : Int).toNat z184) 0) else (none)) else (none)) = some r:=h
 clear h
 by_cases c2 : 0 ≤ (l0.length : Int)
 ·rw [if_pos c2] at H
  have c2b0:=eq_true c2
  have c2b1 : decide (0 ≤ (l0.length : Int)) = true:=decide_eq_true c2
  clear c2
  by_cases c3 : ((l0.length : Int) : Int).toNat ≤ 17592186044416
  ·rw [if_pos c3] at H
   have c3b0:=eq_true c3
   have c3b1 : decide (((l0.length : Int) : Int).toNat ≤ 17592186044416) = true:=decide_eq_true c3
   clear c3
   obtain ⟨y138,hy138⟩ : ∃ y_ : List (S184),y_ = (List.replicate ((l0.length : Int) : Int).toNat z184):=⟨_,rfl⟩
   replace H : (laws_toByS.l0 k l0 y138 0) = some r:=by first | (rw [hy138];with_reducible exact H) | (have H2_:=(Option.bind_some _ _).symm.trans H;rw [hy138];with_reducible exact H2_) | (have H2_:=(Option.bind_some _ _).symm.trans H;with_reducible exact H2_) | with_reducible exact H | (rw [hy138];exact H) | exact H
   have Ny138:=aM_ hy138
   clear hy138
   have H':=aM_ H
   clear H
   go_enter Try.func138,Try.ntmps138
   go_wp2_with (first | ((with_reducible refine gate_dst (N:=7) rfl ?_);refine Kd.R_make k184 _ 184 rfl (N:=7) rfl 84 _ _ rfl (l0.length : Int) rfl rfl Try.underlying84 (.agg #[(.int .i64 0),(.bool false)]) 16 info184 rfl (by decide) (by omega) z184 (ok:=fun _=>True) (okp:=fun _=>True) (k184_mkM _ _ _ z184 ) (fun _ hk=>hk) trivial (oT_ (by first | (with_reducible assumption) | assumption)) (Nat.le_trans (Nat.mul_le_mul_right _ (oT_ (by first | (with_reducible assumption) | assumption) : (l0.length : Int).toNat ≤ 17592186044416)) (by omega)) (Below.refl _ _) (Nat.le_refl _) ?_;intro v139 w4 ho5 hb hg_ hnew_;clear hg_ hnew_;(first | rw [← Ny138.out] at ho5 | (simp only [Int.reduceToNat] at ho5;rw [← Ny138.out] at ho5));have n0_:=aM_ (Kd.R_lower ho5 (bS_ (by exact bZ_ HB)));have n1_:=aM_ (bT_ (by exact bZ_ HB) hb);clear HB;have HO140:=n0_;have HB:=n1_;clear n0_ n1_ hb ho5))
   (try simp only [Act.put,sI_,sS_,sZ_])
   go_loopg [4] k (fun kq v4 w'=>∃ (x3_1 : List (S184)) (x4_1 : Int),v4 = .int .i64 x4_1 ∧ Aside0 (laws_toByS.l0 kq l0 x3_1 x4_1 = some r) ∧ Aside0 (kq ≤ k) ∧ Aside0 (Kd.R k184 184 w' w.heap.size (fun _=>True) v139 x3_1) ∧ Aside0 (Below w.heap.size w w'))
   case atStart=>exact ⟨(y138),(0),(by first | rfl | (simp;done) | (simp [*];done)),H', ⟨Nat.le_refl _⟩,⟨by exact rZ_ HO140⟩,⟨by exact bZ_ HB⟩⟩
   case round =>
    clear H'
    clear c2b0 c2b1 c3b0 c3b1
    obtain ⟨x3_1,x4_1,rfl,HA,HK1,HO_3,HB⟩:=hrel
    cases gk with
    | zero=>exact absurd HA.out (by simp [laws_toByS.l0])
    | succ k1 =>
     have H:=HA.out
     clear HA
     simp only [laws_toByS.l0] at H
     by_cases c6 : x4_1 < (l0.length : Int)
     ·rw [if_pos c6] at H
      have c6b0 : decide (x4_1 < (l0.length : Int)) = true:=decide_eq_true c6
      clear c6
      by_cases c7 : 0 ≤ x4_1
      ·rw [if_pos c7] at H
       have c7b0 : decide (0 ≤ x4_1) = true:=decide_eq_true c7
       clear c7
       replace H:=oB_ H
       obtain ⟨⟨t142,t143⟩,A80,H⟩:=H
       replace H : (if x4_1 < (x3_1.length : Int) then (laws_toByS.l0 k1 l0 (x3_1.set (x4_1 : Int).toNat (⟨t142,t143⟩ : S184)) (wrap64 (x4_1 + 1))) else (none)) = some r:=H
       have A8:=aM_ A80
       clear A80
       by_cases c9 : x4_1 < (x3_1.length : Int)
       ·rw [if_pos c9] at H
        have c9b0 : decide (x4_1 < (x3_1.length : Int)) = true:=decide_eq_true c9
        clear c9
        obtain ⟨y144,hy144⟩ : ∃ y_ : List (S184),y_ = (x3_1.set (x4_1 : Int).toNat (⟨t142,t143⟩ : S184)):=⟨_,rfl⟩
        replace H : (laws_toByS.l0 k1 l0 y144 (wrap64 (x4_1 + 1))) = some r:=by first | (rw [hy144];with_reducible exact H) | (have H2_:=(Option.bind_some _ _).symm.trans H;rw [hy144];with_reducible exact H2_) | (have H2_:=(Option.bind_some _ _).symm.trans H;with_reducible exact H2_) | with_reducible exact H | (rw [hy144];exact H) | exact H
        have Ny144:=aM_ hy144
        clear hy144
        have H':=aM_ H
        clear H
        have p141 : 0 ≤ (x4_1 : Int):=oT_ (by first | (with_reducible assumption) | assumption)
        have q141 : x4_1 < (l0.length : Int):=oT_ (by first | (with_reducible assumption) | assumption)
        obtain ⟨ad141,e141,hx141_0,hx141_1⟩:=at_T187 HR0.out x4_1 p141 q141
        cases e141
        replace hx141_0:=(HB.out.cell (wL_ w _ hx141_0)).trans hx141_0
        replace hx141_1:=(HB.out.cell (wL_ w _ hx141_1)).trans hx141_1
        replace p141:=eq_true p141
        replace q141:=eq_true q141
        go_wp2_with (first | ((with_reducible refine gate_callee (f:=174) rfl ?_);refine goesL_ (some 20) rfl rfl Try.func174 (by kernel_rfl) rfl #[.agg #[.int .i64 ((rd_T187 l0 x4_1).f0),.bool ((rd_T187 l0 x4_1).f1)]] rfl (by (try simp only [mA_,mC_,mN_]);first | done | rfl | (simp only [lD_,lT_];rfl)) ?_;(with_reducible refine (laws_toBy.calls ((rd_T187 l0 x4_1).f0) ((rd_T187 l0 x4_1).f1) t142 t143 _ A8.out).mono ?_);rintro e w11 ⟨rfl,hb⟩;refine ⟨_,rfl,?_⟩;have n0_:=aM_ (Kd.R_below (by exact rZ_ HO_3) hb);have n1_:=aM_ (bT_ (by exact bZ_ HB) hb);clear HO_3 HB;have HO_3:=n0_;have HB:=n1_;clear n0_ n1_ hb;have p10 : 0 ≤ (x4_1 : Int):=oT_ (by first | (with_reducible assumption) | assumption);have q10 : (x4_1 : Int) < ((x3_1.length : Int) : Int):=oT_ (by first | (with_reducible assumption) | assumption);obtain ⟨go10,co10,eo10,gb10,gl10,cl10,HG10⟩:=Kd.R_form HO_3.out (by omega);(first | cases eo10 | (injection eo10 with ea_ en_ ec_;(first | subst ea_ | (injection ea_ with ea_;subst ea_));subst ec_;clear en_));have GB10:=aM_ gb10;have GG10:=aM_ HG10;clear gb10 gl10 HG10;obtain ⟨ce10,hcl10,hM10,hcc10,hfr10⟩:=Kd.R_elem HO_3.out z184 (x4_1 : Int) p10 q10;obtain rfl:=k184_openM hM10;have hx10_0 : w11.cell? ⟨go10,(x4_1 : Int).toNat * 2,none⟩ = some (.int .i64 ((rd_T184 x3_1 x4_1).f0)):=hcc10 0 _ rfl;have hx10_1 : w11.cell? ⟨go10,(x4_1 : Int).toNat * 2 + 1,none⟩ = some (.bool ((rd_T184 x3_1 x4_1).f1)):=hcc10 1 _ rfl;have hf10_0 : w11.frozen? ⟨go10,(x4_1 : Int).toNat * 2,none⟩ = false:=hfr10 0;have hf10_1 : w11.frozen? ⟨go10,(x4_1 : Int).toNat * 2 + 1,none⟩ = false:=hfr10 1;clear hM10 hcl10 hcc10 hfr10;replace p10:=eq_true p10;replace q10:=eq_true q10;have HX12:=aM_ (show Kd.R k184 184 w11 w.heap.size (fun _=>True) (.slice (some ⟨go10,0,none⟩) x3_1.length co10) x3_1 from (by exact rZ_ HO_3));obtain ⟨ce12,hcl12,hM12,hcc12,hfr12⟩:=Kd.R_elem HX12.out z184 (x4_1 : Int) (oT_ (by first | (with_reducible assumption) | assumption)) (by have h_ : (x4_1 : Int) < ((x3_1.length : Int) : Int):=oT_ (by first | (with_reducible assumption) | assumption);first | exact h_ | (have e_:=(Kd.R_reads' HO_3.out).1;omega) | simpa using h_);obtain rfl:=k184_openM hM12;have HP12:=Kd.R_seg HX12.out (x4_1 : Int) (oT_ (by first | (with_reducible assumption) | assumption)) (by have h_ : (x4_1 : Int) < ((x3_1.length : Int) : Int):=oT_ (by first | (with_reducible assumption) | assumption);first | exact h_ | (have e_:=(Kd.R_reads' HO_3.out).1;omega) | simpa using h_) (seg:=[.int .i64 t142,.bool t143]) (j:=0) hcl12 hcc12 (show 2 ≤ 2 from by decide) (x':=(⟨t142,t143⟩ : S184)) (k184_mkM _ _ _ (⟨t142,t143⟩ : S184) ) (fun _ hk=>hk);have hx12_0:=hcc12 0 _ rfl;(try simp only [show (k184).sz = 2 from rfl,Nat.mul_one,Nat.add_zero] at hx12_0);have hf12_0:=hfr12 0;(try simp only [show (k184).sz = 2 from rfl,Nat.mul_one,Nat.add_zero] at hf12_0);have hx12_1:=hcc12 1 _ rfl;(try simp only [show (k184).sz = 2 from rfl,Nat.mul_one,Nat.add_zero] at hx12_1);have hf12_1:=hfr12 1;(try simp only [show (k184).sz = 2 from rfl,Nat.mul_one,Nat.add_zero] at hf12_1);clear hM12 hcl12 hcc12 hfr12) | ((with_reducible refine gate_store (t:=184) (p:=21) rfl ?_);refine store_event (t:=184) (p:=21) (v:=?vo_w13) (w1:=((w11.setCell ⟨go10,(x4_1 : Int).toNat * 2,none⟩ (.int .i64 t142)).setCell ⟨go10,(x4_1 : Int).toNat * 2 + 1,none⟩ (.bool t143))) ?hg ?ho ?hn ?hr ?_;(case ho=>rfl);(case hg=>rfl);(case hn=>rfl);(case hr=>first | (go_simp;done) | (go_simp;rfl));intro w13 hw;have hg : w11.grownBy w13 (some go10):=(by rw [hw];exact HP12.2);have hp_ : Kd.R k184 184 w13 w.heap.size (fun _=>True) (.slice (some ⟨go10,0,none⟩) x3_1.length co10) y144:=(by rw [hw,Ny144.out];exact HP12.1);clear HP12;have n0_:=aM_ (hp_);have n1_:=aM_ ((by rw [hw];exact bE_ (bE_ (HB.out) GB10.out) GB10.out : Below w.heap.size w w13));clear HO_3 HB;have HO_3:=n0_;have HB:=n1_;clear n0_ n1_ hg hw hp_))
        go_roundg k1
        case measure=>have:=HK1.out;omega
        case rel=>exact ⟨(y144),(wrap64 (x4_1 + 1)),(by first | rfl | (simp;done) | (simp [*];done)),H', ⟨by have:=HK1.out;omega⟩,⟨by exact rZ_ HO_3⟩,⟨by exact bZ_ HB⟩⟩
       ·rw [if_neg c9] at H
        exact absurd H (by simp)
      ·rw [if_neg c7] at H
       exact absurd H (by simp)
     ·rw [if_neg c6] at H
      have c6b0 : decide (x4_1 < (l0.length : Int)) = false:=decide_eq_false c6
      clear c6
      obtain rfl:=Option.some.inj H
      go_wp2
      go_ret
      exact ⟨_,by first | rfl | (simp [errW_none,errW_some] <;> rfl) | (simp [*, errW_none,errW_some] <;> rfl),by exact rZ_ HO_3,by exact bZ_ HB⟩
  ·rw [if_neg c3] at H
   exact absurd H (by simp)
 ·rw [if_neg c2] at H
  exact absurd H (by simp)
def laws_toIndex.f (k : Nat) (a0_0 : ByteArray) (a0_1 : Bool) (l0_2 : List (S187)) : Option (ByteArray × Bool × (List (S184))):=(laws_toByS.f k l0_2).bind fun t148=>(some (a0_0,a0_1,t148))
theorem laws_toIndex.mono : ∀ a0 a1 a2 k,LeO (laws_toIndex.f k a0 a1 a2) (laws_toIndex.f (k + 1) a0 a1 a2):=by
 intro a0 a1 a2 k
 unfold laws_toIndex.f
 repeat' first
   | (with_reducible exact laws_toByS.mono _ _)
   | (with_reducible exact LeO.refl _)
   | (with_reducible exact LeO.none _)
   | (with_reducible refine LeO.ite ?_ ?_)
   | (with_reducible refine LeO.bind ?_ (fun _=>?_))
   | exact laws_toByS.mono _ _
   | exact LeO.none _
   | refine LeO.ite ?_ ?_
   | refine LeO.bind ?_ (fun _=>?_)
set_option maxHeartbeats 8000000 in
set_option maxRecDepth 100000 in
theorem laws_toIndex.calls (k : Nat) (a0_0 : ByteArray) (a0_1 : Bool) (A0_2 : Option Addr) (c0_2 : Nat) (l0_2 : List (S187)) (r1 : ByteArray) (r2 : Bool) (r3 : List (S184)) (w : World) (hr0_2 : Kd.C k187 w A0_2 l0_2.length l0_2) (hc0_2 : l0_2.length ≤ c0_2) (h : laws_toIndex.f k a0_0 a0_1 l0_2 = some (r1,r2,r3)) :
  Calls Try.prog 175 #[.agg #[.string a0_0,.bool a0_1,.slice A0_2 l0_2.length c0_2]] w fun e w'=>∃ v2_ : Value,e = .returned (.agg #[.string r1,.bool r2,v2_]) ∧ Kd.R k184 184 w' w.heap.size (fun _=>True) v2_ r3 ∧ Below w.heap.size w w':=by
 have hu182:=Try.underlying182
 have hu148:=Try.underlying148
 have HR0_2:=aM_ hr0_2
 have HC0_2:=aM_ hc0_2
 clear hr0_2 hc0_2
 have HB:=aM_ (Below.refl w.heap.size w)
 have H : ((laws_toByS.f k l0_2).bind fun t148=>(some (a0_0,a0_1,t148))) = some (r1,r2,r3):=h
 clear h
 replace H:=oB_ H
 obtain ⟨t148,A20,H⟩:=H
 replace H : (some (a0_0,a0_1,t148)) = some (r1,r2,r3):=H
 have A2:=aM_ A20
 clear A20
 simp only [Option.some.injEq,Prod.mk.injEq] at H
 obtain ⟨rfl,rfl,rfl⟩:=H
 go_enter Try.func175,Try.ntmps175
 go_wp2_with (first | ((with_reducible refine gate_dst (N:=1) rfl ?_);refine box_event ?hg (N:=1) ?hd (cs:=#[.string a0_0,.bool a0_1,.slice A0_2 l0_2.length c0_2]) (t:=182) ?hr ?_;(case hd=>rfl);(case hg=>rfl);(case hr=>first | (go_simp;done) | (go_simp;rfl));intro gb145 hg w3 hbox hb;have n0_:=aM_ (bT_ (by exact bZ_ HB) hb);have n1_:=aM_ (hbox);have n2_:=aM_ ((by rw [hg];exact (bS_ (by exact bZ_ HB)) : w.heap.size ≤ gb145));have n3_:=aM_ ((by rw [hg];exact (bS_ (by exact bZ_ HB)) : w.heap.size ≤ gb145));clear HB;have HB:=n0_;have BK145:=n1_;have GW145:=n2_;have GE145:=n3_;clear n0_ n1_ n2_ n3_ hb hbox hg) | ((with_reducible refine gate_dst (N:=2) rfl ?_);refine box_event ?hg (N:=2) ?hd (cs:=#[.string (⟨#[]⟩ : ByteArray),.bool false,.slice none 0 0]) (t:=148) ?hr ?_;(case hd=>rfl);(case hg=>rfl);(case hr=>first | (go_simp;done) | (go_simp;rfl));intro gb146 hg w4 hbox hb;have n0_:=aM_ (blk_below (g:=gb145) (o:=.cells #[.string a0_0,.bool a0_1,.slice A0_2 l0_2.length c0_2] 182 (0,0)) (by exact kZ_ BK145) hb);have n1_:=aM_ (bT_ (by exact bZ_ HB) hb);have n2_:=aM_ (hbox);have n3_:=aM_ ((by rw [hg];exact (bS_ (by exact bZ_ HB)) : w.heap.size ≤ gb146));have n4_:=aM_ ((by rw [hg];exact (bS_ (by exact bZ_ HB)) : w.heap.size ≤ gb146));have n5_:=aM_ ((by rw [hg];exact nN_ (blk_lt (g:=gb145) (o:=.cells #[.string a0_0,.bool a0_1,.slice A0_2 l0_2.length c0_2] 182 (0,0)) (by exact kZ_ BK145)) : gb145 ≠ gb146));have n6_:=aM_ ((by rw [hg];exact Nat.ne_of_gt (blk_lt (g:=gb145) (o:=.cells #[.string a0_0,.bool a0_1,.slice A0_2 l0_2.length c0_2] 182 (0,0)) (by exact kZ_ BK145)) : gb146 ≠ gb145));clear BK145 HB;have BK145:=n0_;have HB:=n1_;have BK146:=n2_;have GW146:=n3_;have GE146:=n4_;have NB145_146:=n5_;have NB146_145:=n6_;clear n0_ n1_ n2_ n3_ n4_ n5_ n6_ hb hbox hg) | ((with_reducible refine gate_dst (N:=3) rfl ?_);refine box_event ?hg (N:=3) ?hd (cs:=#[.string (⟨#[]⟩ : ByteArray),.bool false,.slice none 0 0]) (t:=148) ?hr ?_;(case hd=>rfl);(case hg=>rfl);(case hr=>first | (go_simp;done) | (go_simp;rfl));intro gb147 hg w5 hbox hb;have n0_:=aM_ (blk_below (g:=gb145) (o:=.cells #[.string a0_0,.bool a0_1,.slice A0_2 l0_2.length c0_2] 182 (0,0)) (by exact kZ_ BK145) hb);have n1_:=aM_ (blk_below (g:=gb146) (o:=.cells #[.string (⟨#[]⟩ : ByteArray),.bool false,.slice none 0 0] 148 (0,0)) (by exact kZ_ BK146) hb);have n2_:=aM_ (bT_ (by exact bZ_ HB) hb);have n3_:=aM_ (hbox);have n4_:=aM_ ((by rw [hg];exact (bS_ (by exact bZ_ HB)) : w.heap.size ≤ gb147));have n5_:=aM_ ((by rw [hg];exact (bS_ (by exact bZ_ HB)) : w.heap.size ≤ gb147));have n6_:=aM_ ((by rw [hg];exact nN_ (blk_lt (g:=gb145) (o:=.cells #[.string a0_0,.bool a0_1,.slice A0_2 l0_2.length c0_2] 182 (0,0)) (by exact kZ_ BK145)) : gb145 ≠ gb147));have n7_:=aM_ ((by rw [hg];exact Nat.ne_of_gt (blk_lt (g:=gb145) (o:=.cells #[.string a0_0,.bool a0_1,.slice A0_2 l0_2.length c0_2] 182 (0,0)) (by exact kZ_ BK145)) : gb147 ≠ gb145));have n8_:=aM_ ((by rw [hg];exact nN_ (blk_lt (g:=gb146) (o:=.cells #[.string (⟨#[]⟩ : ByteArray),.bool false,.slice none 0 0] 148 (0,0)) (by exact kZ_ BK146)) : gb146 ≠ gb147));have n9_:=aM_ ((by rw [hg];exact Nat.ne_of_gt (blk_lt (g:=gb146) (o:=.cells #[.string (⟨#[]⟩ : ByteArray),.bool false,.slice none 0 0] 148 (0,0)) (by exact kZ_ BK146)) : gb147 ≠ gb146));clear BK145 BK146 HB;have BK145:=n0_;have BK146:=n1_;have HB:=n2_;have BK147:=n3_;have GW147:=n4_;have GE147:=n5_;have NB145_147:=n6_;have NB147_145:=n7_;have NB146_147:=n8_;have NB147_146:=n9_;clear n0_ n1_ n2_ n3_ n4_ n5_ n6_ n7_ n8_ n9_ hb hbox hg;have hnb6:=NB145_146.out;have hnc6:=NB146_145.out;have hnb7:=NB145_147.out;have hnc7:=NB147_145.out;have hcz8_0 : w5.cell? ⟨gb145,0,none⟩ = some (.string a0_0):=(kC_ BK145.out 0).trans rfl;have hcz8_1 : w5.cell? ⟨gb145,1,none⟩ = some (.bool a0_1):=(kC_ BK145.out 1).trans rfl;have hcz8_2 : w5.cell? ⟨gb145,2,none⟩ = some (.slice A0_2 l0_2.length c0_2):=(kC_ BK145.out 2).trans rfl;have hfz8_0:=kF_ BK145.out 0;have hfz8_1:=kF_ BK145.out 1;have hfz8_2:=kF_ BK145.out 2;have hnb9:=NB147_146.out;have hnc9:=NB146_147.out;have hcz10_0 : w5.cell? ⟨gb147,0,none⟩ = some (.string (⟨#[]⟩ : ByteArray)):=(kC_ BK147.out 0).trans rfl;have hcz10_1 : w5.cell? ⟨gb147,1,none⟩ = some (.bool false):=(kC_ BK147.out 1).trans rfl;have hcz10_2 : w5.cell? ⟨gb147,2,none⟩ = some (.slice none 0 0):=(kC_ BK147.out 2).trans rfl;have hfz10_0:=kF_ BK147.out 0;have hfz10_1:=kF_ BK147.out 1;have hfz10_2:=kF_ BK147.out 2) | ((with_reducible refine gate_callee (f:=138) rfl ?_);refine goesL_ (some 12) rfl rfl Try.func138 (by kernel_rfl) rfl #[.slice A0_2 l0_2.length c0_2] rfl (by (try simp only [mA_,mC_,mN_]);first | done | rfl | (simp only [lD_,lT_];rfl)) ?_;(with_reducible refine (laws_toByS.calls k _ _ l0_2 t148 _ ?side1 ?side2 A2.out).mono ?_);(case side1=>exact Kd.C_below HR0_2.out (by exact bZ_ HB));(case side2=>exact HC0_2.out);rintro e w11 ⟨v149,rfl,ho0,hb⟩;refine ⟨_,rfl,?_⟩;have n0_:=aM_ (Kd.R_lower ho0 (bS_ (by exact bZ_ HB)));have n1_:=aM_ (blk_below (g:=gb145) (o:=.cells #[.string a0_0,.bool a0_1,.slice A0_2 l0_2.length c0_2] 182 (0,0)) (by exact kW_ BK145) hb);have n2_:=aM_ (blk_below (g:=gb146) (o:=.cells #[.string (⟨#[]⟩ : ByteArray),.bool false,.slice none 0 0] 148 (0,0)) (by exact kW_ BK146) hb);have n3_:=aM_ (blk_below (g:=gb147) (o:=.cells #[.string a0_0,.bool a0_1,.slice none 0 0] 148 (0,0)) (by (with_reducible repeat (first | refine kN_ ?_ _ | refine kD_ ?_ | refine kA_ ?_ _));refine kP_ (cs:=#[.string a0_0,.bool false,.slice none 0 0]) ?_ 1 _ rfl;(with_reducible repeat (first | refine kN_ ?_ _ | refine kD_ ?_ | refine kA_ ?_ _));refine kP_ (cs:=#[.string (⟨#[]⟩ : ByteArray),.bool false,.slice none 0 0]) ?_ 0 _ rfl;exact kZ_ BK147) hb);have n4_:=aM_ (bT_ (by exact bZ_ HB) hb);clear BK145 BK146 BK147 HB;have HO150:=n0_;have BK145:=n1_;have BK146:=n2_;have BK147:=n3_;have HB:=n4_;clear n0_ n1_ n2_ n3_ n4_ hb ho0;obtain ⟨Ao12,co12,eo12⟩:=Kd.R_slice HO150.out;subst eo12;have hcz13_0 : w11.cell? ⟨gb147,0,none⟩ = some (.string a0_0):=(kC_ BK147.out 0).trans rfl;have hcz13_1 : w11.cell? ⟨gb147,1,none⟩ = some (.bool a0_1):=(kC_ BK147.out 1).trans rfl;have hcz13_2 : w11.cell? ⟨gb147,2,none⟩ = some (.slice none 0 0):=(kC_ BK147.out 2).trans rfl;have hfz13_0:=kF_ BK147.out 0;have hfz13_1:=kF_ BK147.out 1;have hfz13_2:=kF_ BK147.out 2;have hcz14_0 : w11.cell? ⟨gb146,0,none⟩ = some (.string (⟨#[]⟩ : ByteArray)):=(kC_ BK146.out 0).trans rfl;have hcz14_1 : w11.cell? ⟨gb146,1,none⟩ = some (.bool false):=(kC_ BK146.out 1).trans rfl;have hcz14_2 : w11.cell? ⟨gb146,2,none⟩ = some (.slice none 0 0):=(kC_ BK146.out 2).trans rfl;have hfz14_0:=kF_ BK146.out 0;have hfz14_1:=kF_ BK146.out 1;have hfz14_2:=kF_ BK146.out 2))
 refine bodyPost_ret (results_cell_row rfl _ _ gb146 148 #[.string a0_0,.bool a0_1,.slice Ao12 t148.length co12] (0,0) _ rfl (by (with_reducible repeat (first | refine kN_ ?_ _ | refine kD_ ?_ | refine kA_ ?_ _));refine kP_ (cs:=#[.string a0_0,.bool a0_1,.slice none 0 0]) ?_ 2 _ rfl;(with_reducible repeat (first | refine kN_ ?_ _ | refine kD_ ?_ | refine kA_ ?_ _));refine kP_ (cs:=#[.string a0_0,.bool false,.slice none 0 0]) ?_ 1 _ rfl;(with_reducible repeat (first | refine kN_ ?_ _ | refine kD_ ?_ | refine kA_ ?_ _));refine kP_ (cs:=#[.string (⟨#[]⟩ : ByteArray),.bool false,.slice none 0 0]) ?_ 0 _ rfl;exact kW_ BK146) Try.underlying148 rfl (by kernel_rfl)) rfl ?_
 exact ⟨_,by first | rfl | (simp [errW_none,errW_some] <;> rfl) | (simp [*, errW_none,errW_some] <;> rfl),by (with_reducible repeat (first | apply rA_ | apply rN_ | apply rD_));exact Kd.R_mono (Kd.R_far (p:=⟨gb146,2,none⟩) (Kd.R_far (p:=⟨gb146,1,none⟩) (Kd.R_far (p:=⟨gb146,0,none⟩) (Kd.R_far (p:=⟨gb147,2,none⟩) (Kd.R_types (Kd.R_types HO150.out BK147.out (by decide)) BK146.out (by decide)) (fun _ hk=>hk.1.2) (.slice Ao12 t148.length co12)) (fun _ hk=>hk.2) (.string a0_0)) (fun _ hk=>hk.2) (.bool a0_1)) (fun _ hk=>hk.2) (.slice Ao12 t148.length co12)) (fun _ hk=>trivial),by exact bZ_ HB⟩
def laws_toIndexS.l0 : Nat → List (S182) → List (S148) → Int → Option ((List (S148)))
 | 0,_,_,_=>none
 | k + 1,x0,x3,x4=>if x4 < (x0.length : Int) then (if 0 ≤ x4 then ((laws_toIndex.f k ((rd_T182 x0 x4).f0) ((rd_T182 x0 x4).f1) ((rd_T182 x0 x4).f2)).bind fun bt155=>(if x4 < (x3.length : Int) then (laws_toIndexS.l0 k x0 (x3.set (x4 : Int).toNat (⟨bt155.1,bt155.2.1,bt155.2.2⟩ : S148)) (wrap64 (x4 + 1))) else (none))) else (none)) else (some x3)
def laws_toIndexS.f (k : Nat) (l0 : List (S182)) : Option ((List (S148))):=if 0 ≤ (l0.length : Int) then (if ((l0.length : Int) : Int).toNat ≤ 5864062014805 then (laws_toIndexS.l0 k l0 (List.replicate ((l0.length : Int) : Int).toNat z148) 0) else (none)) else (none)
theorem laws_toIndexS.mono_l : ∀ k,(∀ y0 y1 y2,LeO (laws_toIndexS.l0 k y0 y1 y2) (laws_toIndexS.l0 (k + 1) y0 y1 y2))
 | 0=>fun _ _ _ r h=>by simp [laws_toIndexS.l0] at h
 | k + 1=>by
  have ih0:=laws_toIndexS.mono_l k
  ·intro y0 y1 y2
   unfold laws_toIndexS.l0
   repeat' first
   | (with_reducible exact ih0 _ _ _)
   | (with_reducible exact laws_toIndex.mono _ _ _ _)
   | (with_reducible exact LeO.refl _)
   | (with_reducible exact LeO.none _)
   | (with_reducible refine LeO.ite ?_ ?_)
   | (with_reducible refine LeO.bind ?_ (fun _=>?_))
   | exact ih0 _ _ _
   | exact laws_toIndex.mono _ _ _ _
   | exact LeO.none _
   | refine LeO.ite ?_ ?_
   | refine LeO.bind ?_ (fun _=>?_)
theorem laws_toIndexS.mono : ∀ a0 k,LeO (laws_toIndexS.f k a0) (laws_toIndexS.f (k + 1) a0):=by
 intro a0 k
 have ih0:=laws_toIndexS.mono_l k
 unfold laws_toIndexS.f
 repeat' first
   | (with_reducible exact ih0 _ _ _)
   | (with_reducible exact laws_toIndex.mono _ _ _ _)
   | (with_reducible exact LeO.refl _)
   | (with_reducible exact LeO.none _)
   | (with_reducible refine LeO.ite ?_ ?_)
   | (with_reducible refine LeO.bind ?_ (fun _=>?_))
   | exact ih0 _ _ _
   | exact laws_toIndex.mono _ _ _ _
   | exact LeO.none _
   | refine LeO.ite ?_ ?_
   | refine LeO.bind ?_ (fun _=>?_)
set_option maxHeartbeats 8000000 in
set_option maxRecDepth 100000 in
theorem laws_toIndexS.calls (k : Nat) (A0 : Option Addr) (c0 : Nat) (l0 : List (S182)) (r : List (S148)) (w : World) (hr0 : Kd.C k182 w A0 l0.length l0) (hc0 : l0.length ≤ c0) (h : laws_toIndexS.f k l0 = some r) :
  Calls Try.prog 139 #[.slice A0 l0.length c0] w fun e w'=>∃ v0_ : Value,e = .returned (v0_) ∧ Kd.S k148 148 w' w.heap.size (fun _=>True) v0_ r ∧ Below w.heap.size w w':=by
 have hu182:=Try.underlying182
 have hu148:=Try.underlying148
 have HR0:=aM_ hr0
 have HC0:=aM_ hc0
 clear hr0 hc0
 have HB:=aM_ (Below.refl w.heap.size w)
 have H : (if 0 ≤ (l0.length : Int) then (if ((l0.length : Int) : Int).toNat ≤ 5864062014805 then (laws_toIndexS.l0 k l0 (List.replicate ((l0.length : Int) : Int).toNat z148) 0) else (none)) else (none)) = some r:=h
 clear h
 by_cases c2 : 0 ≤ (l0.length : Int)
 ·rw [if_pos c2] at H
  have c2b0:=eq_true c2
  have c2b1 : decide (0 ≤ (l0.length : Int)) = true:=decide_eq_true c2
  clear c2
  by_cases c3 : ((l0.length : Int) : Int).toNat ≤ 5864062014805
  ·rw [if_pos c3] at H
   have c3b0:=eq_true c3
   have c3b1 : decide (((l0.length : Int) : Int).toNat ≤ 5864062014805) = true:=decide_eq_true c3
   clear c3
   obtain ⟨y151,hy151⟩ : ∃ y_ : List (S148),y_ = (List.replicate ((l0.length : Int) : Int).toNat z148):=⟨_,rfl⟩
   replace H : (laws_toIndexS.l0 k l0 y151 0) = some r:=by first | (rw [hy151];with_reducible exact H) | (have H2_:=(Option.bind_some _ _).symm.trans H;rw [hy151];with_reducible exact H2_) | (have H2_:=(Option.bind_some _ _).symm.trans H;with_reducible exact H2_) | with_reducible exact H | (rw [hy151];exact H) | exact H
   have Ny151:=aM_ hy151
   clear hy151
   have H':=aM_ H
   clear H
   go_enter Try.func139,Try.ntmps139
   go_wp2_with (first | ((with_reducible refine gate_dst (N:=7) rfl ?_);refine Kd.S_make k148 _ 148 rfl (N:=7) rfl 85 _ _ rfl (l0.length : Int) rfl rfl Try.underlying85 (.agg #[(.string ⟨#[]⟩),(.bool false),(.slice none 0 0)]) 48 info148 rfl (by decide) (by omega) z148 (ok:=fun _=>True) (okp:=fun _=>True) (k148_mkM _ _ _ z148 (Kd.R_nil _ _ _ _ _)) (fun _ hk=>hk) trivial (oT_ (by first | (with_reducible assumption) | assumption)) (Nat.le_trans (Nat.mul_le_mul_right _ (oT_ (by first | (with_reducible assumption) | assumption) : (l0.length : Int).toNat ≤ 5864062014805)) (by omega)) (Below.refl _ _) (Nat.le_refl _) ?_;intro v152 w4 ho5 hb hg_ hnew_;clear hg_ hnew_;(first | rw [← Ny151.out] at ho5 | (simp only [Int.reduceToNat] at ho5;rw [← Ny151.out] at ho5));have n0_:=aM_ (Kd.S_lower ho5 (bS_ (by exact bZ_ HB)));have n1_:=aM_ (bT_ (by exact bZ_ HB) hb);clear HB;have HO153:=n0_;have HB:=n1_;clear n0_ n1_ hb ho5))
   (try simp only [Act.put,sI_,sS_,sZ_])
   go_loopg [4] k (fun kq v4 w'=>∃ (x3_1 : List (S148)) (x4_1 : Int),v4 = .int .i64 x4_1 ∧ Aside0 (laws_toIndexS.l0 kq l0 x3_1 x4_1 = some r) ∧ Aside0 (kq ≤ k) ∧ Aside0 (Kd.S k148 148 w' w.heap.size (fun _=>True) v152 x3_1) ∧ Aside0 (Below w.heap.size w w'))
   case atStart=>exact ⟨(y151),(0),(by first | rfl | (simp;done) | (simp [*];done)),H', ⟨Nat.le_refl _⟩,⟨by (with_reducible repeat (first | apply Kd.S_alloc | apply Kd.S_drewN | apply Kd.S_drew));exact HO153.out⟩,⟨by exact bZ_ HB⟩⟩
   case round =>
    clear H'
    clear c2b0 c2b1 c3b0 c3b1
    obtain ⟨x3_1,x4_1,rfl,HA,HK1,HO_3,HB⟩:=hrel
    cases gk with
    | zero=>exact absurd HA.out (by simp [laws_toIndexS.l0])
    | succ k1 =>
     have H:=HA.out
     clear HA
     simp only [laws_toIndexS.l0] at H
     by_cases c6 : x4_1 < (l0.length : Int)
     ·rw [if_pos c6] at H
      have c6b0 : decide (x4_1 < (l0.length : Int)) = true:=decide_eq_true c6
      clear c6
      by_cases c7 : 0 ≤ x4_1
      ·rw [if_pos c7] at H
       have c7b0 : decide (0 ≤ x4_1) = true:=decide_eq_true c7
       clear c7
       replace H:=oB_ H
       obtain ⟨⟨t155,t156,t157⟩,A80,H⟩:=H
       replace H : (if x4_1 < (x3_1.length : Int) then (laws_toIndexS.l0 k1 l0 (x3_1.set (x4_1 : Int).toNat (⟨t155,t156,t157⟩ : S148)) (wrap64 (x4_1 + 1))) else (none)) = some r:=H
       have A8:=aM_ A80
       clear A80
       by_cases c9 : x4_1 < (x3_1.length : Int)
       ·rw [if_pos c9] at H
        have c9b0 : decide (x4_1 < (x3_1.length : Int)) = true:=decide_eq_true c9
        clear c9
        obtain ⟨y160,hy160⟩ : ∃ y_ : List (S148),y_ = (x3_1.set (x4_1 : Int).toNat (⟨t155,t156,t157⟩ : S148)):=⟨_,rfl⟩
        replace H : (laws_toIndexS.l0 k1 l0 y160 (wrap64 (x4_1 + 1))) = some r:=by first | (rw [hy160];with_reducible exact H) | (have H2_:=(Option.bind_some _ _).symm.trans H;rw [hy160];with_reducible exact H2_) | (have H2_:=(Option.bind_some _ _).symm.trans H;with_reducible exact H2_) | with_reducible exact H | (rw [hy160];exact H) | exact H
        have Ny160:=aM_ hy160
        clear hy160
        have H':=aM_ H
        clear H
        have p154 : 0 ≤ (x4_1 : Int):=oT_ (by first | (with_reducible assumption) | assumption)
        have q154 : x4_1 < (l0.length : Int):=oT_ (by first | (with_reducible assumption) | assumption)
        obtain ⟨ad154,A154_2,c154_2,e154,hx154_0,hx154_1,hx154_2,hl154_2,hi154_2⟩:=at_T182 HR0.out x4_1 p154 q154
        cases e154
        replace hx154_0:=(HB.out.cell (wL_ w _ hx154_0)).trans hx154_0
        replace hx154_1:=(HB.out.cell (wL_ w _ hx154_1)).trans hx154_1
        replace hx154_2:=(HB.out.cell (wL_ w _ hx154_2)).trans hx154_2
        have HR154_2:=aM_ hi154_2
        have HC154_2:=aM_ hl154_2
        clear hi154_2 hl154_2
        replace p154:=eq_true p154
        replace q154:=eq_true q154
        go_wp2_with (first | ((with_reducible refine gate_callee (f:=175) rfl ?_);refine goesL_ (some 20) rfl rfl Try.func175 (by kernel_rfl) rfl #[.agg #[.string ((rd_T182 l0 x4_1).f0),.bool ((rd_T182 l0 x4_1).f1),.slice A154_2 ((rd_T182 l0 x4_1).f2).length c154_2]] rfl (by (try simp only [mA_,mC_,mN_]);first | done | rfl | (simp only [lD_,lT_];rfl)) ?_;(with_reducible refine (laws_toIndex.calls k1 ((rd_T182 l0 x4_1).f0) ((rd_T182 l0 x4_1).f1) _ _ ((rd_T182 l0 x4_1).f2) t155 t156 t157 _ ?side1 ?side2 A8.out).mono ?_);(case side1=>repeat (first | exact (Kd.C_below HR154_2.out HB.out) | (with_reducible refine cA_ ?_ _) | (with_reducible refine cN_ ?_ _) | (with_reducible refine cD_ ?_)));(case side2=>exact HC154_2.out);rintro e w11 ⟨v158,rfl,ho0,hb⟩;refine ⟨_,rfl,?_⟩;have n0_:=aM_ (Kd.S_elder' (by (with_reducible repeat (first | apply Kd.S_alloc | apply Kd.S_drewN | apply Kd.S_drew));exact HO_3.out) (Kd.R_base ho0) hb);have n1_:=aM_ (Kd.R_lower ho0 (bS_ (by exact bZ_ HB)));have n2_:=aM_ (bT_ (by exact bZ_ HB) hb);clear HO_3 HB;have HO_3:=n0_;have HO159:=n1_;have HB:=n2_;clear n0_ n1_ n2_ hb ho0;have p10 : 0 ≤ (x4_1 : Int):=oT_ (by first | (with_reducible assumption) | assumption);have q10 : (x4_1 : Int) < ((x3_1.length : Int) : Int):=oT_ (by first | (with_reducible assumption) | assumption);obtain ⟨go10,co10,eo10,gb10,gl10,cl10,HG10⟩:=Kd.S_form HO_3.out (by omega);(first | cases eo10 | (injection eo10 with ea_ en_ ec_;(first | subst ea_ | (injection ea_ with ea_;subst ea_));subst ec_;clear en_));have GB10:=aM_ gb10;have GG10:=aM_ HG10;clear gb10 gl10 HG10;obtain ⟨_,ce10,hcl10,hM10,hcc10,hfr10,_,_⟩:=Kd.S_elem HO_3.out z148 (x4_1 : Int) p10 q10;obtain ⟨ve10_2,rfl,ge10_2⟩:=k148_openM hM10;have hx10_0 : w11.cell? ⟨go10,(x4_1 : Int).toNat * 3,none⟩ = some (.string ((rd_T148 x3_1 x4_1).f0)):=hcc10 0 _ rfl;have hx10_1 : w11.cell? ⟨go10,(x4_1 : Int).toNat * 3 + 1,none⟩ = some (.bool ((rd_T148 x3_1 x4_1).f1)):=hcc10 1 _ rfl;have hx10_2 : w11.cell? ⟨go10,(x4_1 : Int).toNat * 3 + 2,none⟩ = some (ve10_2):=hcc10 2 _ rfl;have hf10_0 : w11.frozen? ⟨go10,(x4_1 : Int).toNat * 3,none⟩ = false:=hfr10 0;have hf10_1 : w11.frozen? ⟨go10,(x4_1 : Int).toNat * 3 + 1,none⟩ = false:=hfr10 1;have hf10_2 : w11.frozen? ⟨go10,(x4_1 : Int).toNat * 3 + 2,none⟩ = false:=hfr10 2;clear hM10 hcl10 hcc10 hfr10;replace p10:=eq_true p10;replace q10:=eq_true q10;obtain ⟨Ao12,co12,eo12⟩:=Kd.R_slice HO159.out;subst eo12;have n_:=aM_ (Kd.S_mono (ok':=(fun k_=>some k_ ≠ (.slice Ao12 t157.length co12 : Value).ownBlock)) HO_3.out (fun k_ hk=>hk.2));clear HO_3;have HO_3:=n_;clear n_;have HX13:=aM_ (show Kd.S k148 148 w11 w.heap.size (fun k_=>((fun _=>True)) k_ ∧ ¬ ((fun k_=>some k_ = (.slice Ao12 t157.length co12 : Value).ownBlock)) k_) (.slice (some ⟨go10,0,none⟩) x3_1.length co10) x3_1 from (by (with_reducible repeat (first | apply Kd.S_alloc | apply Kd.S_drewN | apply Kd.S_drew));exact Kd.S_mono HO_3.out (fun k_ hk=>⟨trivial,fun e_=>hk e_⟩)));obtain ⟨oki13,ce13,hcl13,hM13,hcc13,hfr13,hoki13,hH13⟩:=Kd.S_elem HX13.out z148 (x4_1 : Int) (oT_ (by first | (with_reducible assumption) | assumption)) (by have h_ : (x4_1 : Int) < ((x3_1.length : Int) : Int):=oT_ (by first | (with_reducible assumption) | assumption);first | exact h_ | (have e_:=(Kd.S_reads' HO_3.out).1;omega) | simpa using h_);obtain ⟨ve13_2,rfl,ge13_2⟩:=k148_openM hM13;have HP13:=Kd.S_seg hH13 (oT_ (by first | (with_reducible assumption) | assumption)) (by have h_ : (x4_1 : Int) < ((x3_1.length : Int) : Int):=oT_ (by first | (with_reducible assumption) | assumption);first | exact h_ | (have e_:=(Kd.S_reads' HO_3.out).1;omega) | simpa using h_) (seg:=[.string t155,.bool t156,.slice Ao12 t157.length co12]) (j:=0) (show 3 ≤ 3 from by decide) (x':=(⟨t155,t156,t157⟩ : S148)) (k148_mkM _ _ _ (⟨t155,t156,t157⟩ : S148) (Kd.R_mono (Kd.R_tight rfl (Kd.R_mono (ok':=fun k_=>((fun _=>True)) k_ ∧ k_ ≠ go10) (Kd.R_apart' (HO159.out) (Kd.S_typed HO_3.out) (by decide)) (fun k_ hk=>⟨trivial,fun e_=>(hk.2) (by rw [e_];rfl)⟩))) (fun _ h_=>Or.inr (h_)))) (fun _ hk=>hk) (fun k_ hk_=>((Kd.R_mono (ok':=fun k_=>((fun _=>True)) k_ ∧ k_ ≠ go10) (Kd.R_apart' (HO159.out) (Kd.S_typed HO_3.out) (by decide)) (fun k_ hk=>⟨trivial,fun e_=>(hk.2) (by rw [e_];rfl)⟩))).1 k_ hk_.symm);have hx13_0:=hcc13 0 _ rfl;(try simp only [show (k148).sz = 3 from rfl,Nat.mul_one,Nat.add_zero] at hx13_0);have hf13_0:=hfr13 0;(try simp only [show (k148).sz = 3 from rfl,Nat.mul_one,Nat.add_zero] at hf13_0);have hx13_1:=hcc13 1 _ rfl;(try simp only [show (k148).sz = 3 from rfl,Nat.mul_one,Nat.add_zero] at hx13_1);have hf13_1:=hfr13 1;(try simp only [show (k148).sz = 3 from rfl,Nat.mul_one,Nat.add_zero] at hf13_1);have hx13_2:=hcc13 2 _ rfl;(try simp only [show (k148).sz = 3 from rfl,Nat.mul_one,Nat.add_zero] at hx13_2);have hf13_2:=hfr13 2;(try simp only [show (k148).sz = 3 from rfl,Nat.mul_one,Nat.add_zero] at hf13_2);clear hM13 hcl13 hcc13 hfr13 hoki13 hH13) | ((with_reducible refine gate_store (t:=148) (p:=21) rfl ?_);refine store_event (t:=148) (p:=21) (v:=?vo_w14) (w1:=(((w11.setCell ⟨go10,(x4_1 : Int).toNat * 3,none⟩ (.string t155)).setCell ⟨go10,(x4_1 : Int).toNat * 3 + 1,none⟩ (.bool t156)).setCell ⟨go10,(x4_1 : Int).toNat * 3 + 2,none⟩ (.slice Ao12 t157.length co12))) ?hg ?ho ?hn ?hr ?_;(case ho=>rfl);(case hg=>rfl);(case hn=>rfl);(case hr=>first | (go_simp;done) | (go_simp;rfl));intro w14 hw;have hg : w11.grownBy w14 (some go10):=(by rw [hw];exact HP13.2);have hp_ : Kd.S k148 148 w14 w.heap.size (fun _=>True) (.slice (some ⟨go10,0,none⟩) x3_1.length co10) y160:=(by rw [hw,Ny160.out];exact HP13.1);clear HP13;have n0_:=aM_ (hp_);have n1_:=aM_ ((by rw [hw];exact bE_ (bE_ (bE_ (HB.out) GB10.out) GB10.out) GB10.out : Below w.heap.size w w14));clear HO_3 HB HO159;have HO_3:=n0_;have HB:=n1_;clear n0_ n1_ hg hw hp_))
        go_roundg k1
        case measure=>have:=HK1.out;omega
        case rel=>exact ⟨(y160),(wrap64 (x4_1 + 1)),(by first | rfl | (simp;done) | (simp [*];done)),H', ⟨by have:=HK1.out;omega⟩,⟨by (with_reducible repeat (first | apply Kd.S_alloc | apply Kd.S_drewN | apply Kd.S_drew));exact HO_3.out⟩,⟨by exact bZ_ HB⟩⟩
       ·rw [if_neg c9] at H
        exact absurd H (by simp)
      ·rw [if_neg c7] at H
       exact absurd H (by simp)
     ·rw [if_neg c6] at H
      have c6b0 : decide (x4_1 < (l0.length : Int)) = false:=decide_eq_false c6
      clear c6
      obtain rfl:=Option.some.inj H
      go_wp2
      go_ret
      exact ⟨_,by first | rfl | (simp [errW_none,errW_some] <;> rfl) | (simp [*, errW_none,errW_some] <;> rfl),by (with_reducible repeat (first | apply Kd.S_alloc | apply Kd.S_drewN | apply Kd.S_drew));exact HO_3.out,by exact bZ_ HB⟩
  ·rw [if_neg c3] at H
   exact absurd H (by simp)
 ·rw [if_neg c2] at H
  exact absurd H (by simp)
def laws_toDef.f (k : Nat) (a0_0 : ByteArray) (l0_1 : List (S179)) (l0_2 : List (S187)) (l0_3 : List (S182)) : Option (ByteArray × (List (S146)) × (List (S184)) × (List (S148))):=(laws_toColS.f k l0_1).bind fun t164=>((laws_toByS.f k l0_2).bind fun t167=>((laws_toIndexS.f k l0_3).bind fun t170=>(some (a0_0,t164,t167,t170))))
theorem laws_toDef.mono : ∀ a0 a1 a2 a3 k,LeO (laws_toDef.f k a0 a1 a2 a3) (laws_toDef.f (k + 1) a0 a1 a2 a3):=by
 intro a0 a1 a2 a3 k
 unfold laws_toDef.f
 repeat' first
   | (with_reducible exact laws_toByS.mono _ _)
   | (with_reducible exact laws_toColS.mono _ _)
   | (with_reducible exact laws_toIndexS.mono _ _)
   | (with_reducible exact LeO.refl _)
   | (with_reducible exact LeO.none _)
   | (with_reducible refine LeO.ite ?_ ?_)
   | (with_reducible refine LeO.bind ?_ (fun _=>?_))
   | exact laws_toByS.mono _ _
   | exact laws_toColS.mono _ _
   | exact laws_toIndexS.mono _ _
   | exact LeO.none _
   | refine LeO.ite ?_ ?_
   | refine LeO.bind ?_ (fun _=>?_)
set_option maxHeartbeats 8000000 in
set_option maxRecDepth 100000 in
theorem laws_toDef.calls (k : Nat) (a0_0 : ByteArray) (A0_1 : Option Addr) (c0_1 : Nat) (l0_1 : List (S179)) (A0_2 : Option Addr) (c0_2 : Nat) (l0_2 : List (S187)) (A0_3 : Option Addr) (c0_3 : Nat) (l0_3 : List (S182)) (r1 : ByteArray) (r2 : List (S146)) (r3 : List (S184)) (r4 : List (S148)) (w : World) (hr0_1 : Kd.C k179 w A0_1 l0_1.length l0_1) (hc0_1 : l0_1.length ≤ c0_1) (hr0_2 : Kd.C k187 w A0_2 l0_2.length l0_2) (hc0_2 : l0_2.length ≤ c0_2) (hr0_3 : Kd.C k182 w A0_3 l0_3.length l0_3) (hc0_3 : l0_3.length ≤ c0_3) (h : laws_toDef.f k a0_0 l0_1 l0_2 l0_3 = some (r1,r2,r3,r4)) :
  Calls Try.prog 63 #[.agg #[.string a0_0,.slice A0_1 l0_1.length c0_1,.slice A0_2 l0_2.length c0_2,.slice A0_3 l0_3.length c0_3]] w fun e w'=>∃ v1_ v2_ v3_ : Value,e = .returned (.agg #[.string r1,v1_,v2_,v3_]) ∧ Kd.R k146 146 w' w.heap.size (fun _=>True) v1_ r2 ∧ Kd.R k184 184 w' w.heap.size (fun _=>True) v2_ r3 ∧ Kd.S k148 148 w' w.heap.size (fun k_=>some k_ ≠ (v2_ : Value).ownBlock) v3_ r4 ∧ Below w.heap.size w w':=by
 have hu80:=Try.underlying80
 have hu87:=Try.underlying87
 have HR0_1:=aM_ hr0_1
 have HC0_1:=aM_ hc0_1
 clear hr0_1 hc0_1
 have HR0_2:=aM_ hr0_2
 have HC0_2:=aM_ hc0_2
 clear hr0_2 hc0_2
 have HR0_3:=aM_ hr0_3
 have HC0_3:=aM_ hc0_3
 clear hr0_3 hc0_3
 have HB:=aM_ (Below.refl w.heap.size w)
 have H : ((laws_toColS.f k l0_1).bind fun t164=>((laws_toByS.f k l0_2).bind fun t167=>((laws_toIndexS.f k l0_3).bind fun t170=>(some (a0_0,t164,t167,t170))))) = some (r1,r2,r3,r4):=h
 clear h
 replace H:=oB_ H
 obtain ⟨t164,A20,H⟩:=H
 replace H : ((laws_toByS.f k l0_2).bind fun t167=>((laws_toIndexS.f k l0_3).bind fun t170=>(some (a0_0,t164,t167,t170)))) = some (r1,r2,r3,r4):=H
 have A2:=aM_ A20
 clear A20
 replace H:=oB_ H
 obtain ⟨t167,A30,H⟩:=H
 replace H : ((laws_toIndexS.f k l0_3).bind fun t170=>(some (a0_0,t164,t167,t170))) = some (r1,r2,r3,r4):=H
 have A3:=aM_ A30
 clear A30
 replace H:=oB_ H
 obtain ⟨t170,A40,H⟩:=H
 replace H : (some (a0_0,t164,t167,t170)) = some (r1,r2,r3,r4):=H
 have A4:=aM_ A40
 clear A40
 simp only [Option.some.injEq,Prod.mk.injEq] at H
 obtain ⟨rfl,rfl,rfl,rfl⟩:=H
 go_enter Try.func63,Try.ntmps63
 go_wp2_with (first | ((with_reducible refine gate_dst (N:=1) rfl ?_);refine box_event ?hg (N:=1) ?hd (cs:=#[.string a0_0,.slice A0_1 l0_1.length c0_1,.slice A0_2 l0_2.length c0_2,.slice A0_3 l0_3.length c0_3]) (t:=80) ?hr ?_;(case hd=>rfl);(case hg=>rfl);(case hr=>first | (go_simp;done) | (go_simp;rfl));intro gb161 hg w5 hbox hb;have n0_:=aM_ (bT_ (by exact bZ_ HB) hb);have n1_:=aM_ (hbox);have n2_:=aM_ ((by rw [hg];exact (bS_ (by exact bZ_ HB)) : w.heap.size ≤ gb161));have n3_:=aM_ ((by rw [hg];exact (bS_ (by exact bZ_ HB)) : w.heap.size ≤ gb161));clear HB;have HB:=n0_;have BK161:=n1_;have GW161:=n2_;have GE161:=n3_;clear n0_ n1_ n2_ n3_ hb hbox hg) | ((with_reducible refine gate_dst (N:=2) rfl ?_);refine box_event ?hg (N:=2) ?hd (cs:=#[.string (⟨#[]⟩ : ByteArray),.slice none 0 0,.slice none 0 0,.slice none 0 0]) (t:=87) ?hr ?_;(case hd=>rfl);(case hg=>rfl);(case hr=>first | (go_simp;done) | (go_simp;rfl));intro gb162 hg w6 hbox hb;have n0_:=aM_ (blk_below (g:=gb161) (o:=.cells #[.string a0_0,.slice A0_1 l0_1.length c0_1,.slice A0_2 l0_2.length c0_2,.slice A0_3 l0_3.length c0_3] 80 (0,0)) (by exact kZ_ BK161) hb);have n1_:=aM_ (bT_ (by exact bZ_ HB) hb);have n2_:=aM_ (hbox);have n3_:=aM_ ((by rw [hg];exact (bS_ (by exact bZ_ HB)) : w.heap.size ≤ gb162));have n4_:=aM_ ((by rw [hg];exact (bS_ (by exact bZ_ HB)) : w.heap.size ≤ gb162));have n5_:=aM_ ((by rw [hg];exact nN_ (blk_lt (g:=gb161) (o:=.cells #[.string a0_0,.slice A0_1 l0_1.length c0_1,.slice A0_2 l0_2.length c0_2,.slice A0_3 l0_3.length c0_3] 80 (0,0)) (by exact kZ_ BK161)) : gb161 ≠ gb162));have n6_:=aM_ ((by rw [hg];exact Nat.ne_of_gt (blk_lt (g:=gb161) (o:=.cells #[.string a0_0,.slice A0_1 l0_1.length c0_1,.slice A0_2 l0_2.length c0_2,.slice A0_3 l0_3.length c0_3] 80 (0,0)) (by exact kZ_ BK161)) : gb162 ≠ gb161));clear BK161 HB;have BK161:=n0_;have HB:=n1_;have BK162:=n2_;have GW162:=n3_;have GE162:=n4_;have NB161_162:=n5_;have NB162_161:=n6_;clear n0_ n1_ n2_ n3_ n4_ n5_ n6_ hb hbox hg) | ((with_reducible refine gate_dst (N:=3) rfl ?_);refine box_event ?hg (N:=3) ?hd (cs:=#[.string (⟨#[]⟩ : ByteArray),.slice none 0 0,.slice none 0 0,.slice none 0 0]) (t:=87) ?hr ?_;(case hd=>rfl);(case hg=>rfl);(case hr=>first | (go_simp;done) | (go_simp;rfl));intro gb163 hg w7 hbox hb;have n0_:=aM_ (blk_below (g:=gb161) (o:=.cells #[.string a0_0,.slice A0_1 l0_1.length c0_1,.slice A0_2 l0_2.length c0_2,.slice A0_3 l0_3.length c0_3] 80 (0,0)) (by exact kZ_ BK161) hb);have n1_:=aM_ (blk_below (g:=gb162) (o:=.cells #[.string (⟨#[]⟩ : ByteArray),.slice none 0 0,.slice none 0 0,.slice none 0 0] 87 (0,0)) (by exact kZ_ BK162) hb);have n2_:=aM_ (bT_ (by exact bZ_ HB) hb);have n3_:=aM_ (hbox);have n4_:=aM_ ((by rw [hg];exact (bS_ (by exact bZ_ HB)) : w.heap.size ≤ gb163));have n5_:=aM_ ((by rw [hg];exact (bS_ (by exact bZ_ HB)) : w.heap.size ≤ gb163));have n6_:=aM_ ((by rw [hg];exact nN_ (blk_lt (g:=gb161) (o:=.cells #[.string a0_0,.slice A0_1 l0_1.length c0_1,.slice A0_2 l0_2.length c0_2,.slice A0_3 l0_3.length c0_3] 80 (0,0)) (by exact kZ_ BK161)) : gb161 ≠ gb163));have n7_:=aM_ ((by rw [hg];exact Nat.ne_of_gt (blk_lt (g:=gb161) (o:=.cells #[.string a0_0,.slice A0_1 l0_1.length c0_1,.slice A0_2 l0_2.length c0_2,.slice A0_3 l0_3.length c0_3] 80 (0,0)) (by exact kZ_ BK161)) : gb163 ≠ gb161));have n8_:=aM_ ((by rw [hg];exact nN_ (blk_lt (g:=gb162) (o:=.cells #[.string (⟨#[]⟩ : ByteArray),.slice none 0 0,.slice none 0 0,.slice none 0 0] 87 (0,0)) (by exact kZ_ BK162)) : gb162 ≠ gb163));have n9_:=aM_ ((by rw [hg];exact Nat.ne_of_gt (blk_lt (g:=gb162) (o:=.cells #[.string (⟨#[]⟩ : ByteArray),.slice none 0 0,.slice none 0 0,.slice none 0 0] 87 (0,0)) (by exact kZ_ BK162)) : gb163 ≠ gb162));clear BK161 BK162 HB;have BK161:=n0_;have BK162:=n1_;have HB:=n2_;have BK163:=n3_;have GW163:=n4_;have GE163:=n5_;have NB161_163:=n6_;have NB163_161:=n7_;have NB162_163:=n8_;have NB163_162:=n9_;clear n0_ n1_ n2_ n3_ n4_ n5_ n6_ n7_ n8_ n9_ hb hbox hg;have hnb8:=NB161_162.out;have hnc8:=NB162_161.out;have hnb9:=NB161_163.out;have hnc9:=NB163_161.out;have hcz10_0 : w7.cell? ⟨gb161,0,none⟩ = some (.string a0_0):=(kC_ BK161.out 0).trans rfl;have hcz10_1 : w7.cell? ⟨gb161,1,none⟩ = some (.slice A0_1 l0_1.length c0_1):=(kC_ BK161.out 1).trans rfl;have hcz10_2 : w7.cell? ⟨gb161,2,none⟩ = some (.slice A0_2 l0_2.length c0_2):=(kC_ BK161.out 2).trans rfl;have hcz10_3 : w7.cell? ⟨gb161,3,none⟩ = some (.slice A0_3 l0_3.length c0_3):=(kC_ BK161.out 3).trans rfl;have hfz10_0:=kF_ BK161.out 0;have hfz10_1:=kF_ BK161.out 1;have hfz10_2:=kF_ BK161.out 2;have hfz10_3:=kF_ BK161.out 3;have hnb11:=NB163_162.out;have hnc11:=NB162_163.out;have hcz12_0 : w7.cell? ⟨gb163,0,none⟩ = some (.string (⟨#[]⟩ : ByteArray)):=(kC_ BK163.out 0).trans rfl;have hcz12_1 : w7.cell? ⟨gb163,1,none⟩ = some (.slice none 0 0):=(kC_ BK163.out 1).trans rfl;have hcz12_2 : w7.cell? ⟨gb163,2,none⟩ = some (.slice none 0 0):=(kC_ BK163.out 2).trans rfl;have hcz12_3 : w7.cell? ⟨gb163,3,none⟩ = some (.slice none 0 0):=(kC_ BK163.out 3).trans rfl;have hfz12_0:=kF_ BK163.out 0;have hfz12_1:=kF_ BK163.out 1;have hfz12_2:=kF_ BK163.out 2;have hfz12_3:=kF_ BK163.out 3) | ((with_reducible refine gate_callee (f:=137) rfl ?_);refine goesL_ (some 9) rfl rfl Try.func137 (by kernel_rfl) rfl #[.slice A0_1 l0_1.length c0_1] rfl (by (try simp only [mA_,mC_,mN_]);first | done | rfl | (simp only [lD_,lT_];rfl)) ?_;(with_reducible refine (laws_toColS.calls k _ _ l0_1 t164 _ ?side1 ?side2 A2.out).mono ?_);(case side1=>exact Kd.C_below HR0_1.out (by exact bZ_ HB));(case side2=>exact HC0_1.out);rintro e w13 ⟨v165,rfl,ho0,hb⟩;refine ⟨_,rfl,?_⟩;have n0_:=aM_ (Kd.R_lower ho0 (bS_ (by exact bZ_ HB)));have n1_:=aM_ (blk_below (g:=gb161) (o:=.cells #[.string a0_0,.slice A0_1 l0_1.length c0_1,.slice A0_2 l0_2.length c0_2,.slice A0_3 l0_3.length c0_3] 80 (0,0)) (by exact kW_ BK161) hb);have n2_:=aM_ (blk_below (g:=gb162) (o:=.cells #[.string (⟨#[]⟩ : ByteArray),.slice none 0 0,.slice none 0 0,.slice none 0 0] 87 (0,0)) (by exact kW_ BK162) hb);have n3_:=aM_ (blk_below (g:=gb163) (o:=.cells #[.string a0_0,.slice none 0 0,.slice none 0 0,.slice none 0 0] 87 (0,0)) (by (with_reducible repeat (first | refine kN_ ?_ _ | refine kD_ ?_ | refine kA_ ?_ _));refine kP_ (cs:=#[.string (⟨#[]⟩ : ByteArray),.slice none 0 0,.slice none 0 0,.slice none 0 0]) ?_ 0 _ rfl;exact kZ_ BK163) hb);have n4_:=aM_ (bT_ (by exact bZ_ HB) hb);clear BK161 BK162 BK163 HB;have HO166:=n0_;have BK161:=n1_;have BK162:=n2_;have BK163:=n3_;have HB:=n4_;clear n0_ n1_ n2_ n3_ n4_ hb ho0;obtain ⟨Ao14,co14,eo14⟩:=Kd.R_slice HO166.out;subst eo14;have hcz15_0 : w13.cell? ⟨gb163,0,none⟩ = some (.string a0_0):=(kC_ BK163.out 0).trans rfl;have hcz15_1 : w13.cell? ⟨gb163,1,none⟩ = some (.slice none 0 0):=(kC_ BK163.out 1).trans rfl;have hcz15_2 : w13.cell? ⟨gb163,2,none⟩ = some (.slice none 0 0):=(kC_ BK163.out 2).trans rfl;have hcz15_3 : w13.cell? ⟨gb163,3,none⟩ = some (.slice none 0 0):=(kC_ BK163.out 3).trans rfl;have hfz15_0:=kF_ BK163.out 0;have hfz15_1:=kF_ BK163.out 1;have hfz15_2:=kF_ BK163.out 2;have hfz15_3:=kF_ BK163.out 3;have hcz16_0 : w13.cell? ⟨gb161,0,none⟩ = some (.string a0_0):=(kC_ BK161.out 0).trans rfl;have hcz16_1 : w13.cell? ⟨gb161,1,none⟩ = some (.slice A0_1 l0_1.length c0_1):=(kC_ BK161.out 1).trans rfl;have hcz16_2 : w13.cell? ⟨gb161,2,none⟩ = some (.slice A0_2 l0_2.length c0_2):=(kC_ BK161.out 2).trans rfl;have hcz16_3 : w13.cell? ⟨gb161,3,none⟩ = some (.slice A0_3 l0_3.length c0_3):=(kC_ BK161.out 3).trans rfl;have hfz16_0:=kF_ BK161.out 0;have hfz16_1:=kF_ BK161.out 1;have hfz16_2:=kF_ BK161.out 2;have hfz16_3:=kF_ BK161.out 3) | ((with_reducible refine gate_callee (f:=138) rfl ?_);refine goesL_ (some 13) rfl rfl Try.func138 (by kernel_rfl) rfl #[.slice A0_2 l0_2.length c0_2] rfl (by (try simp only [mA_,mC_,mN_]);first | done | rfl | (simp only [lD_,lT_];rfl)) ?_;(with_reducible refine (laws_toByS.calls k _ _ l0_2 t167 _ ?side1 ?side2 A3.out).mono ?_);(case side1=>exact Kd.C_below HR0_2.out (by exact bZ_ HB));(case side2=>exact HC0_2.out);rintro e w17 ⟨v168,rfl,ho0,hb⟩;refine ⟨_,rfl,?_⟩;have n0_:=aM_ (Kd.R_below (by (with_reducible repeat (first | apply rA_ | apply rN_ | apply rD_));exact (Kd.R_mono (Kd.R_far (p:=⟨gb163,1,none⟩) (Kd.R_types HO166.out BK163.out (by decide)) (fun _ hk=>hk.2) (.slice Ao14 t164.length co14)) (fun _ h_=>h_.1))) hb);have n1_:=aM_ (Kd.R_lower ho0 (bS_ (by exact bZ_ HB)));have n2_:=aM_ (blk_below (g:=gb161) (o:=.cells #[.string a0_0,.slice A0_1 l0_1.length c0_1,.slice A0_2 l0_2.length c0_2,.slice A0_3 l0_3.length c0_3] 80 (0,0)) (by exact kW_ BK161) hb);have n3_:=aM_ (blk_below (g:=gb162) (o:=.cells #[.string (⟨#[]⟩ : ByteArray),.slice none 0 0,.slice none 0 0,.slice none 0 0] 87 (0,0)) (by exact kW_ BK162) hb);have n4_:=aM_ (blk_below (g:=gb163) (o:=.cells #[.string a0_0,.slice Ao14 t164.length co14,.slice none 0 0,.slice none 0 0] 87 (0,0)) (by (with_reducible repeat (first | refine kN_ ?_ _ | refine kD_ ?_ | refine kA_ ?_ _));refine kP_ (cs:=#[.string a0_0,.slice none 0 0,.slice none 0 0,.slice none 0 0]) ?_ 1 _ rfl;exact kZ_ BK163) hb);have n5_:=aM_ (bT_ (by exact bZ_ HB) hb);clear HO166 BK161 BK162 BK163 HB;have HO166:=n0_;have HO169:=n1_;have BK161:=n2_;have BK162:=n3_;have BK163:=n4_;have HB:=n5_;clear n0_ n1_ n2_ n3_ n4_ n5_ hb ho0;obtain ⟨Ao18,co18,eo18⟩:=Kd.R_slice HO169.out;subst eo18;have hcz19_0 : w17.cell? ⟨gb163,0,none⟩ = some (.string a0_0):=(kC_ BK163.out 0).trans rfl;have hcz19_1 : w17.cell? ⟨gb163,1,none⟩ = some (.slice Ao14 t164.length co14):=(kC_ BK163.out 1).trans rfl;have hcz19_2 : w17.cell? ⟨gb163,2,none⟩ = some (.slice none 0 0):=(kC_ BK163.out 2).trans rfl;have hcz19_3 : w17.cell? ⟨gb163,3,none⟩ = some (.slice none 0 0):=(kC_ BK163.out 3).trans rfl;have hfz19_0:=kF_ BK163.out 0;have hfz19_1:=kF_ BK163.out 1;have hfz19_2:=kF_ BK163.out 2;have hfz19_3:=kF_ BK163.out 3;have hcz20_0 : w17.cell? ⟨gb161,0,none⟩ = some (.string a0_0):=(kC_ BK161.out 0).trans rfl;have hcz20_1 : w17.cell? ⟨gb161,1,none⟩ = some (.slice A0_1 l0_1.length c0_1):=(kC_ BK161.out 1).trans rfl;have hcz20_2 : w17.cell? ⟨gb161,2,none⟩ = some (.slice A0_2 l0_2.length c0_2):=(kC_ BK161.out 2).trans rfl;have hcz20_3 : w17.cell? ⟨gb161,3,none⟩ = some (.slice A0_3 l0_3.length c0_3):=(kC_ BK161.out 3).trans rfl;have hfz20_0:=kF_ BK161.out 0;have hfz20_1:=kF_ BK161.out 1;have hfz20_2:=kF_ BK161.out 2;have hfz20_3:=kF_ BK161.out 3) | ((with_reducible refine gate_callee (f:=139) rfl ?_);refine goesL_ (some 17) rfl rfl Try.func139 (by kernel_rfl) rfl #[.slice A0_3 l0_3.length c0_3] rfl (by (try simp only [mA_,mC_,mN_]);first | done | rfl | (simp only [lD_,lT_];rfl)) ?_;(with_reducible refine (laws_toIndexS.calls k _ _ l0_3 t170 _ ?side1 ?side2 A4.out).mono ?_);(case side1=>exact Kd.C_below HR0_3.out (by exact bZ_ HB));(case side2=>exact HC0_3.out);rintro e w21 ⟨v171,rfl,ho0,hb⟩;refine ⟨_,rfl,?_⟩;have n0_:=aM_ (Kd.R_below (by (with_reducible repeat (first | apply rA_ | apply rN_ | apply rD_));exact (Kd.R_mono (Kd.R_far (p:=⟨gb163,2,none⟩) (Kd.R_types HO166.out BK163.out (by decide)) (fun _ hk=>hk.2) (.slice Ao18 t167.length co18)) (fun _ h_=>h_.1))) hb);have n1_:=aM_ (Kd.R_below (by (with_reducible repeat (first | apply rA_ | apply rN_ | apply rD_));exact (Kd.R_mono (Kd.R_far (p:=⟨gb163,2,none⟩) (Kd.R_types HO169.out BK163.out (by decide)) (fun _ hk=>hk.2) (.slice Ao18 t167.length co18)) (fun _ h_=>h_.1))) hb);have n2_:=aM_ (Kd.S_lower (Kd.S_new' ho0 (Kd.R_lt (by (with_reducible repeat (first | apply rA_ | apply rN_ | apply rD_));exact (Kd.R_mono (Kd.R_far (p:=⟨gb163,2,none⟩) (Kd.R_types HO169.out BK163.out (by decide)) (fun _ hk=>hk.2) (.slice Ao18 t167.length co18)) (fun _ h_=>h_.1))))) (bS_ (by exact bZ_ HB)));have n3_:=aM_ (blk_below (g:=gb161) (o:=.cells #[.string a0_0,.slice A0_1 l0_1.length c0_1,.slice A0_2 l0_2.length c0_2,.slice A0_3 l0_3.length c0_3] 80 (0,0)) (by exact kW_ BK161) hb);have n4_:=aM_ (blk_below (g:=gb162) (o:=.cells #[.string (⟨#[]⟩ : ByteArray),.slice none 0 0,.slice none 0 0,.slice none 0 0] 87 (0,0)) (by exact kW_ BK162) hb);have n5_:=aM_ (blk_below (g:=gb163) (o:=.cells #[.string a0_0,.slice Ao14 t164.length co14,.slice Ao18 t167.length co18,.slice none 0 0] 87 (0,0)) (by (with_reducible repeat (first | refine kN_ ?_ _ | refine kD_ ?_ | refine kA_ ?_ _));refine kP_ (cs:=#[.string a0_0,.slice Ao14 t164.length co14,.slice none 0 0,.slice none 0 0]) ?_ 2 _ rfl;exact kZ_ BK163) hb);have n6_:=aM_ (bT_ (by exact bZ_ HB) hb);clear HO166 HO169 BK161 BK162 BK163 HB;have HO166:=n0_;have HO169:=n1_;have HO172:=n2_;have BK161:=n3_;have BK162:=n4_;have BK163:=n5_;have HB:=n6_;clear n0_ n1_ n2_ n3_ n4_ n5_ n6_ hb ho0;obtain ⟨Ao22,co22,eo22⟩:=Kd.S_slice HO172.out;subst eo22;have hcz23_0 : w21.cell? ⟨gb163,0,none⟩ = some (.string a0_0):=(kC_ BK163.out 0).trans rfl;have hcz23_1 : w21.cell? ⟨gb163,1,none⟩ = some (.slice Ao14 t164.length co14):=(kC_ BK163.out 1).trans rfl;have hcz23_2 : w21.cell? ⟨gb163,2,none⟩ = some (.slice Ao18 t167.length co18):=(kC_ BK163.out 2).trans rfl;have hcz23_3 : w21.cell? ⟨gb163,3,none⟩ = some (.slice none 0 0):=(kC_ BK163.out 3).trans rfl;have hfz23_0:=kF_ BK163.out 0;have hfz23_1:=kF_ BK163.out 1;have hfz23_2:=kF_ BK163.out 2;have hfz23_3:=kF_ BK163.out 3;have hcz24_0 : w21.cell? ⟨gb162,0,none⟩ = some (.string (⟨#[]⟩ : ByteArray)):=(kC_ BK162.out 0).trans rfl;have hcz24_1 : w21.cell? ⟨gb162,1,none⟩ = some (.slice none 0 0):=(kC_ BK162.out 1).trans rfl;have hcz24_2 : w21.cell? ⟨gb162,2,none⟩ = some (.slice none 0 0):=(kC_ BK162.out 2).trans rfl;have hcz24_3 : w21.cell? ⟨gb162,3,none⟩ = some (.slice none 0 0):=(kC_ BK162.out 3).trans rfl;have hfz24_0:=kF_ BK162.out 0;have hfz24_1:=kF_ BK162.out 1;have hfz24_2:=kF_ BK162.out 2;have hfz24_3:=kF_ BK162.out 3))
 refine bodyPost_ret (results_cell_row rfl _ _ gb162 87 #[.string a0_0,.slice Ao14 t164.length co14,.slice Ao18 t167.length co18,.slice Ao22 t170.length co22] (0,0) _ rfl (by (with_reducible repeat (first | refine kN_ ?_ _ | refine kD_ ?_ | refine kA_ ?_ _));refine kP_ (cs:=#[.string a0_0,.slice Ao14 t164.length co14,.slice Ao18 t167.length co18,.slice none 0 0]) ?_ 3 _ rfl;(with_reducible repeat (first | refine kN_ ?_ _ | refine kD_ ?_ | refine kA_ ?_ _));refine kP_ (cs:=#[.string a0_0,.slice Ao14 t164.length co14,.slice none 0 0,.slice none 0 0]) ?_ 2 _ rfl;(with_reducible repeat (first | refine kN_ ?_ _ | refine kD_ ?_ | refine kA_ ?_ _));refine kP_ (cs:=#[.string a0_0,.slice none 0 0,.slice none 0 0,.slice none 0 0]) ?_ 1 _ rfl;(with_reducible repeat (first | refine kN_ ?_ _ | refine kD_ ?_ | refine kA_ ?_ _));refine kP_ (cs:=#[.string (⟨#[]⟩ : ByteArray),.slice none 0 0,.slice none 0 0,.slice none 0 0]) ?_ 0 _ rfl;exact kW_ BK162) Try.underlying87 rfl (by kernel_rfl)) rfl ?_
 exact ⟨_,_,_,by first | rfl | (simp [errW_none,errW_some] <;> rfl) | (simp [*, errW_none,errW_some] <;> rfl),by (with_reducible repeat (first | apply rA_ | apply rN_ | apply rD_));exact Kd.R_mono (Kd.R_far (p:=⟨gb162,3,none⟩) (Kd.R_far (p:=⟨gb162,2,none⟩) (Kd.R_far (p:=⟨gb162,1,none⟩) (Kd.R_far (p:=⟨gb162,0,none⟩) (Kd.R_far (p:=⟨gb163,3,none⟩) (Kd.R_types (Kd.R_types HO166.out BK163.out (by decide)) BK162.out (by decide)) (fun _ hk=>hk.1.2) (.slice Ao22 t170.length co22)) (fun _ hk=>hk.2) (.string a0_0)) (fun _ hk=>hk.2) (.slice Ao14 t164.length co14)) (fun _ hk=>hk.2) (.slice Ao18 t167.length co18)) (fun _ hk=>hk.2) (.slice Ao22 t170.length co22)) (fun _ hk=>trivial),by (with_reducible repeat (first | apply rA_ | apply rN_ | apply rD_));exact Kd.R_mono (Kd.R_far (p:=⟨gb162,3,none⟩) (Kd.R_far (p:=⟨gb162,2,none⟩) (Kd.R_far (p:=⟨gb162,1,none⟩) (Kd.R_far (p:=⟨gb162,0,none⟩) (Kd.R_far (p:=⟨gb163,3,none⟩) (Kd.R_types (Kd.R_types HO169.out BK163.out (by decide)) BK162.out (by decide)) (fun _ hk=>hk.1.2) (.slice Ao22 t170.length co22)) (fun _ hk=>hk.2) (.string a0_0)) (fun _ hk=>hk.2) (.slice Ao14 t164.length co14)) (fun _ hk=>hk.2) (.slice Ao18 t167.length co18)) (fun _ hk=>hk.2) (.slice Ao22 t170.length co22)) (fun _ hk=>trivial),by (with_reducible repeat (first | apply Kd.S_alloc | apply Kd.S_drewN | apply Kd.S_drew));exact Kd.S_mono (Kd.S_far (p:=⟨gb162,3,none⟩) (Kd.S_far (p:=⟨gb162,2,none⟩) (Kd.S_far (p:=⟨gb162,1,none⟩) (Kd.S_far (p:=⟨gb162,0,none⟩) (Kd.S_far (p:=⟨gb163,3,none⟩) (Kd.S_types (Kd.S_types HO172.out BK163.out (by decide)) BK162.out (by decide)) (fun _ hk=>hk.1.2) (.slice Ao22 t170.length co22)) (fun _ hk=>hk.2) (.string a0_0)) (fun _ hk=>hk.2) (.slice Ao14 t164.length co14)) (fun _ hk=>hk.2) (.slice Ao18 t167.length co18)) (fun _ hk=>hk.2) (.slice Ao22 t170.length co22)) (fun _ hk=>hk.1.1.2),by exact bZ_ HB⟩
def impl_sameParts.l0 : Nat → List (S184) → List (S184) → Int → Int → Option (Bool)
 | 0,_,_,_,_=>none
 | k + 1,x0,x1,x12,x13=>if x13 < x12 then (if 0 ≤ x13 then (if x13 < (x0.length : Int) then (if x13 < (x1.length : Int) then (if (!(((rd_T184 x0 x13).f0) == ((rd_T184 x1 x13).f0)) || (!(((rd_T184 x0 x13).f1) == ((rd_T184 x1 x13).f1)))) = true then (some false) else (impl_sameParts.l0 k x0 x1 x12 (wrap64 (x13 + 1)))) else (none)) else (none)) else (none)) else (some true)
def impl_sameParts.f (k : Nat) (l0 : List (S184)) (l1 : List (S184)) : Option (Bool):=if (l0.length : Int) = (l1.length : Int) then (impl_sameParts.l0 k l0 l1 (l0.length : Int) 0) else (some false)
theorem impl_sameParts.mono_l : ∀ k,(∀ y0 y1 y2 y3,LeO (impl_sameParts.l0 k y0 y1 y2 y3) (impl_sameParts.l0 (k + 1) y0 y1 y2 y3))
 | 0=>fun _ _ _ _ r h=>by simp [impl_sameParts.l0] at h
 | k + 1=>by
  have ih0:=impl_sameParts.mono_l k
  ·intro y0 y1 y2 y3
   unfold impl_sameParts.l0
   repeat' first
   | (with_reducible exact ih0 _ _ _ _)
   | (with_reducible exact LeO.refl _)
   | (with_reducible exact LeO.none _)
   | (with_reducible refine LeO.ite ?_ ?_)
   | (with_reducible refine LeO.bind ?_ (fun _=>?_))
   | exact ih0 _ _ _ _
   | exact LeO.none _
   | refine LeO.ite ?_ ?_
   | refine LeO.bind ?_ (fun _=>?_)
theorem impl_sameParts.mono : ∀ a0 a1 k,LeO (impl_sameParts.f k a0 a1) (impl_sameParts.f (k + 1) a0 a1):=by
 intro a0 a1 k
 have ih0:=impl_sameParts.mono_l k
 unfold impl_sameParts.f
 repeat' first
   | (with_reducible exact ih0 _ _ _ _)
   | (with_reducible exact LeO.refl _)
   | (with_reducible exact LeO.none _)
   | (with_reducible refine LeO.ite ?_ ?_)
   | (with_reducible refine LeO.bind ?_ (fun _=>?_))
   | exact ih0 _ _ _ _
   | exact LeO.none _
   | refine LeO.ite ?_ ?_
   | refine LeO.bind ?_ (fun _=>?_)
set_option maxHeartbeats 8000000 in
set_option maxRecDepth 100000 in
theorem impl_sameParts.calls (k : Nat) (A0 : Option Addr) (c0 : Nat) (l0 : List (S184)) (A1 : Option Addr) (c1 : Nat) (l1 : List (S184)) (r : Bool) (w : World) (hr0 : Kd.C k184 w A0 l0.length l0) (hc0 : l0.length ≤ c0) (hr1 : Kd.C k184 w A1 l1.length l1) (hc1 : l1.length ≤ c1) (h : impl_sameParts.f k l0 l1 = some r) :
  Calls Try.prog 140 #[.slice A0 l0.length c0,.slice A1 l1.length c1] w fun e w'=>e = .returned (.bool r) ∧ Drawn0 w w':=by
 have hu184:=Try.underlying184
 have HR0:=aM_ hr0
 have HC0:=aM_ hc0
 clear hr0 hc0
 have HR1:=aM_ hr1
 have HC1:=aM_ hc1
 clear hr1 hc1
 have H : (if (l0.length : Int) = (l1.length : Int) then (impl_sameParts.l0 k l0 l1 (l0.length : Int) 0) else (some false)) = some r:=h
 clear h
 by_cases c3 : (l0.length : Int) = (l1.length : Int)
 ·rw [if_pos c3] at H
  have c3b0 : ((l0.length : Int) == (l1.length : Int)) = true:=beq_iff_eq.mpr c3
  have c3b1 : ((l0.length : Int) != (l1.length : Int)) = false:=bne_eq_false_iff_eq.mpr c3
  have c3b2 : (l0.length == l1.length) = true:=by first | simpa using c3 | (simp at c3 ⊢;omega)
  clear c3
  have H':=aM_ H
  clear H
  go_enter Try.func140,Try.ntmps140
  go_wp2
  repeat (go_quiet (fail);try go_wp2)
  (try simp only [Act.put,sI_,sS_,sZ_])
  go_loopg [13] k (fun kq v13 w'=>∃ (x13_1 : Int),v13 = .int .i64 x13_1 ∧ Aside0 (impl_sameParts.l0 kq l0 l1 (l0.length : Int) x13_1 = some r) ∧ Aside0 (kq ≤ k) ∧ Drawn0 w w')
  case atStart=>exact ⟨(0),(by first | rfl | (simp;done) | (simp [*];done)),H', ⟨Nat.le_refl _⟩,by repeat (first | exact Drawn0.refl _ | apply Drawn0.step)⟩
  case round =>
   clear H'
   clear c3b0 c3b1 c3b2
   obtain ⟨x13_1,rfl,HA,HK1,⟨m1,rfl⟩⟩:=hrel
   cases gk with
   | zero=>exact absurd HA.out (by simp [impl_sameParts.l0])
   | succ k1 =>
    have H:=HA.out
    clear HA
    simp only [impl_sameParts.l0] at H
    by_cases c4 : x13_1 < (l0.length : Int)
    ·rw [if_pos c4] at H
     have c4b0 : decide (x13_1 < (l0.length : Int)) = true:=decide_eq_true c4
     clear c4
     by_cases c5 : 0 ≤ x13_1
     ·rw [if_pos c5] at H
      have c5b0 : decide (0 ≤ x13_1) = true:=decide_eq_true c5
      clear c5
      by_cases c6 : x13_1 < (l0.length : Int)
      ·rw [if_pos c6] at H
       have c6b0 : decide (x13_1 < (l0.length : Int)) = true:=decide_eq_true c6
       clear c6
       by_cases c7 : x13_1 < (l1.length : Int)
       ·rw [if_pos c7] at H
        have c7b0 : decide (x13_1 < (l1.length : Int)) = true:=decide_eq_true c7
        clear c7
        by_cases c8 : (!(((rd_T184 l0 x13_1).f0) == ((rd_T184 l1 x13_1).f0)) || (!(((rd_T184 l0 x13_1).f1) == ((rd_T184 l1 x13_1).f1)))) = true
        ·rw [if_pos c8] at H
         have c8b0 : (!(((rd_T184 l0 x13_1).f0) == ((rd_T184 l1 x13_1).f0)) || (!(((rd_T184 l0 x13_1).f1) == ((rd_T184 l1 x13_1).f1)))) = true:=c8
         clear c8
         obtain rfl:=Option.some.inj H
         have p173 : 0 ≤ (x13_1 : Int):=oT_ (by first | (with_reducible assumption) | assumption)
         have q173 : x13_1 < (l0.length : Int):=oT_ (by first | (with_reducible assumption) | assumption)
         obtain ⟨ad173,e173,hx173_0,hx173_1⟩:=at_T184 HR0.out x13_1 p173 q173
         cases e173
         replace p173:=eq_true p173
         replace q173:=eq_true q173
         have p174 : 0 ≤ (x13_1 : Int):=oT_ (by first | (with_reducible assumption) | assumption)
         have q174 : x13_1 < (l1.length : Int):=oT_ (by first | (with_reducible assumption) | assumption)
         obtain ⟨ad174,e174,hx174_0,hx174_1⟩:=at_T184 HR1.out x13_1 p174 q174
         cases e174
         replace p174:=eq_true p174
         replace q174:=eq_true q174
         go_wp2
         repeat (go_quiet (fail);try go_wp2)
         go_ret
         exact ⟨by first | rfl | (simp;done) | (simp [*];done),by repeat (first | exact Drawn0.refl _ | apply Drawn0.step)⟩
        ·rw [if_neg c8] at H
         have c8b0 : (!(((rd_T184 l0 x13_1).f0) == ((rd_T184 l1 x13_1).f0)) || (!(((rd_T184 l0 x13_1).f1) == ((rd_T184 l1 x13_1).f1)))) = false:=by simpa using c8
         clear c8
         have H':=aM_ H
         clear H
         have p173 : 0 ≤ (x13_1 : Int):=oT_ (by first | (with_reducible assumption) | assumption)
         have q173 : x13_1 < (l0.length : Int):=oT_ (by first | (with_reducible assumption) | assumption)
         obtain ⟨ad173,e173,hx173_0,hx173_1⟩:=at_T184 HR0.out x13_1 p173 q173
         cases e173
         replace p173:=eq_true p173
         replace q173:=eq_true q173
         have p174 : 0 ≤ (x13_1 : Int):=oT_ (by first | (with_reducible assumption) | assumption)
         have q174 : x13_1 < (l1.length : Int):=oT_ (by first | (with_reducible assumption) | assumption)
         obtain ⟨ad174,e174,hx174_0,hx174_1⟩:=at_T184 HR1.out x13_1 p174 q174
         cases e174
         replace p174:=eq_true p174
         replace q174:=eq_true q174
         go_wp2
         repeat (go_quiet (fail);try go_wp2)
         go_roundg k1
         case measure=>have:=HK1.out;omega
         case rel=>exact ⟨(wrap64 (x13_1 + 1)),(by first | rfl | (simp;done) | (simp [*];done)),H', ⟨by have:=HK1.out;omega⟩,by repeat (first | exact Drawn0.refl _ | apply Drawn0.step)⟩
       ·rw [if_neg c7] at H
        exact absurd H (by simp)
      ·rw [if_neg c6] at H
       exact absurd H (by simp)
     ·rw [if_neg c5] at H
      exact absurd H (by simp)
    ·rw [if_neg c4] at H
     have c4b0 : decide (x13_1 < (l0.length : Int)) = false:=decide_eq_false c4
     clear c4
     obtain rfl:=Option.some.inj H
     go_wp2
     repeat (go_quiet (fail);try go_wp2)
     go_ret
     exact ⟨by first | rfl | (simp;done) | (simp [*];done),by repeat (first | exact Drawn0.refl _ | apply Drawn0.step)⟩
 ·rw [if_neg c3] at H
  have c3b0 : ((l0.length : Int) == (l1.length : Int)) = false:=beq_eq_false_iff_ne.mpr c3
  have c3b1 : ((l0.length : Int) != (l1.length : Int)) = true:=bne_iff_ne.mpr c3
  have c3b2 : (l0.length == l1.length) = false:=by first | simpa using c3 | (simp at c3 ⊢;omega)
  obtain rfl:=Option.some.inj H
  go_enter Try.func140,Try.ntmps140
  go_wp2
  repeat (go_quiet (fail);try go_wp2)
  go_ret
  exact ⟨by first | rfl | (simp;done) | (simp [*];done),by repeat (first | exact Drawn0.refl _ | apply Drawn0.step)⟩
end Go.Proofs.Ytllgmgpfdnofmaa.PFnExactSameDef
