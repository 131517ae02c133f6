import Derived.Test.YtipehkeabnfngaaDoorZDSPFnExactDefsTextx0
import Derived.Test.YtipehkeabnfngaaDoorZDSPFnExactDefsTextx1
namespace Go.Proofs.YtipehkeabnfngaaDoor.PFnExactDefsText
open Go.RowKit Go.Proofs.YtipehkeabnfngaaDoorW.PrintWords Go.Proofs.YtipehkeabnfngaaDoorW.PrintLast Go.Proofs.YtipehkeabnfngaaDoorW.PrintMore Go.Proofs.YtipehkeabnfngaaDoor.Xtra
attribute [local go_sem] max2_int min2_int max_two min_two max_three min_three max_four min_four str_leq str_gtr str_geq setCell_drewN cell_set2 cell_set3   -- for this text's walks alone
set_option linter.unusedVariables false
set_option linter.unusedSimpArgs false
def laws_toByS.l0 : Nat → List (S137) → List (S85) → Int → Option ((List (S85)))
 | 0,_,_,_=>none
 | k + 1,x0,x3,x4=>if x4 < (x0.length : Int) then (if 0 ≤ x4 then ((laws_toBy.f ((rd_T137 x0 x4).f0) ((rd_T137 x0 x4).f1)).bind fun bt132=>(if x4 < (x3.length : Int) then (laws_toByS.l0 k x0 (x3.set (x4 : Int).toNat (⟨bt132.1,bt132.2⟩ : S85)) (wrap64 (x4 + 1))) else (none))) else (none)) else (some x3)
def laws_toByS.f (k : Nat) (l0 : List (S137)) : Option ((List (S85))):=if 0 ≤ (l0.length : Int) then (if ((l0.length : Int) : Int).toNat ≤ 17592186044416 then (laws_toByS.l0 k l0 (List.replicate ((l0.length : Int) : Int).toNat z85) 0) else (none)) else (none)
theorem laws_toByS.mono_l : ∀ k,(∀ y0 y1 y2,LeO (laws_toByS.l0 k y0 y1 y2) (laws_toByS.l0 (k + 1) y0 y1 y2))
 | 0=>fun _ _ _ r h=>by simp [laws_toByS.l0] at h
 | k + 1=>by
  have ih0:=laws_toByS.mono_l k
  ·intro y0 y1 y2
   unfold laws_toByS.l0
   repeat' first
   | (with_reducible exact ih0 _ _ _)
   | (with_reducible exact LeO.refl _)
   | (with_reducible exact LeO.none _)
   | (with_reducible refine LeO.ite ?_ ?_)
   | (with_reducible refine LeO.bind ?_ (fun _=>?_))
   | exact ih0 _ _ _
   | exact LeO.none _
   | refine LeO.ite ?_ ?_
   | refine LeO.bind ?_ (fun _=>?_)
theorem laws_toByS.mono : ∀ a0 k,LeO (laws_toByS.f k a0) (laws_toByS.f (k + 1) a0):=by
 intro a0 k
 have ih0:=laws_toByS.mono_l k
 unfold laws_toByS.f
 repeat' first
   | (with_reducible exact ih0 _ _ _)
   | (with_reducible exact LeO.refl _)
   | (with_reducible exact LeO.none _)
   | (with_reducible refine LeO.ite ?_ ?_)
   | (with_reducible refine LeO.bind ?_ (fun _=>?_))
   | exact ih0 _ _ _
   | exact LeO.none _
   | refine LeO.ite ?_ ?_
   | refine LeO.bind ?_ (fun _=>?_)
set_option maxHeartbeats 8000000 in
set_option maxRecDepth 100000 in
theorem laws_toByS.calls (k : Nat) (A0 : Option Addr) (c0 : Nat) (l0 : List (S137)) (r : List (S85)) (w : World) (hr0 : Kd.C k137 w A0 l0.length l0) (hc0 : l0.length ≤ c0) (h : laws_toByS.f k l0 = some r) :
  Calls Tryd.prog 74 #[.slice A0 l0.length c0] w fun e w'=>∃ v0_ : Value,e = .returned (v0_) ∧ Kd.R k85 85 w' w.heap.size (fun _=>True) v0_ r ∧ Below w.heap.size w w':=by
 have hu137:=Tryd.underlying137
 have hu85:=Tryd.underlying85
 have HR0:=aM_ hr0
 have HC0:=aM_ hc0
 clear hr0 hc0
 have HB:=aM_ (Below.refl w.heap.size w)
 have H : (if 0 ≤ (l0.length : Int) then (if ((l0.length : Int) : Int).toNat ≤ 17592186044416 then (laws_toByS.l0 k l0 (List.replicate ((l0.length : Int) : Int).toNat z85) 0) else (none)) else (none)) = some r:=h
 clear h
 by_cases c2 : 0 ≤ (l0.length : Int)
 ·rw [if_pos c2] at H
  have c2b0:=eq_true c2
  have c2b1 : decide (0 ≤ (l0.length : Int)) = true:=decide_eq_true c2
  clear c2
  by_cases c3 : ((l0.length : Int) : Int).toNat ≤ 17592186044416
  ·rw [if_pos c3] at H
   have c3b0:=eq_true c3
   have c3b1 : decide (((l0.length : Int) : Int).toNat ≤ 17592186044416) = true:=decide_eq_true c3
   clear c3
   obtain ⟨y128,hy128⟩ : ∃ y_ : List (S85),y_ = (List.replicate ((l0.length : Int) : Int).toNat z85):=⟨_,rfl⟩
   replace H : (laws_toByS.l0 k l0 y128 0) = some r:=by first | (rw [hy128];with_reducible exact H) | (have H2_:=(Option.bind_some _ _).symm.trans H;rw [hy128];with_reducible exact H2_) | (have H2_:=(Option.bind_some _ _).symm.trans H;with_reducible exact H2_) | with_reducible exact H | (rw [hy128];exact H) | exact H
   have Ny128:=aM_ hy128
   clear hy128
   have H':=aM_ H
   clear H
   go_enter Tryd.func74,Tryd.ntmps74
   go_wp2_with (first | ((with_reducible refine gate_dst (N:=7) rfl ?_);refine Kd.R_make k85 _ 85 rfl (N:=7) rfl 32 _ _ rfl (l0.length : Int) rfl rfl Tryd.underlying32 (.agg #[(.int .i64 0),(.bool false)]) 16 info85 rfl (by decide) (by omega) z85 (ok:=fun _=>True) (okp:=fun _=>True) (k85_mkM _ _ _ z85 ) (fun _ hk=>hk) trivial (oT_ (by first | (with_reducible assumption) | assumption)) (Nat.le_trans (Nat.mul_le_mul_right _ (oT_ (by first | (with_reducible assumption) | assumption) : (l0.length : Int).toNat ≤ 17592186044416)) (by omega)) (Below.refl _ _) (Nat.le_refl _) ?_;intro v129 w4 ho5 hb hg_ hnew_;clear hg_ hnew_;(first | rw [← Ny128.out] at ho5 | (simp only [Int.reduceToNat] at ho5;rw [← Ny128.out] at ho5));have n0_:=aM_ (Kd.R_lower ho5 (bS_ (by exact bZ_ HB)));have n1_:=aM_ (bT_ (by exact bZ_ HB) hb);clear HB;have HO130:=n0_;have HB:=n1_;clear n0_ n1_ hb ho5))
   (try simp only [Act.put,sI_,sS_,sZ_])
   go_loopg [4] k (fun kq v4 w'=>∃ (x3_1 : List (S85)) (x4_1 : Int),v4 = .int .i64 x4_1 ∧ Aside0 (laws_toByS.l0 kq l0 x3_1 x4_1 = some r) ∧ Aside0 (kq ≤ k) ∧ Aside0 (Kd.R k85 85 w' w.heap.size (fun _=>True) v129 x3_1) ∧ Aside0 (Below w.heap.size w w'))
   case atStart=>exact ⟨(y128),(0),(by first | rfl | (simp;done) | (simp [*];done)),H', ⟨Nat.le_refl _⟩,⟨by exact rZ_ HO130⟩,⟨by exact bZ_ HB⟩⟩
   case round =>
    clear H'
    clear c2b0 c2b1 c3b0 c3b1
    obtain ⟨x3_1,x4_1,rfl,HA,HK1,HO_3,HB⟩:=hrel
    cases gk with
    | zero=>exact absurd HA.out (by simp [laws_toByS.l0])
    | succ k1 =>
     have H:=HA.out
     clear HA
     simp only [laws_toByS.l0] at H
     by_cases c6 : x4_1 < (l0.length : Int)
     ·rw [if_pos c6] at H
      have c6b0 : decide (x4_1 < (l0.length : Int)) = true:=decide_eq_true c6
      clear c6
      by_cases c7 : 0 ≤ x4_1
      ·rw [if_pos c7] at H
       have c7b0 : decide (0 ≤ x4_1) = true:=decide_eq_true c7
       clear c7
       replace H:=oB_ H
       obtain ⟨⟨t132,t133⟩,A80,H⟩:=H
       replace H : (if x4_1 < (x3_1.length : Int) then (laws_toByS.l0 k1 l0 (x3_1.set (x4_1 : Int).toNat (⟨t132,t133⟩ : S85)) (wrap64 (x4_1 + 1))) else (none)) = some r:=H
       have A8:=aM_ A80
       clear A80
       by_cases c9 : x4_1 < (x3_1.length : Int)
       ·rw [if_pos c9] at H
        have c9b0 : decide (x4_1 < (x3_1.length : Int)) = true:=decide_eq_true c9
        clear c9
        obtain ⟨y134,hy134⟩ : ∃ y_ : List (S85),y_ = (x3_1.set (x4_1 : Int).toNat (⟨t132,t133⟩ : S85)):=⟨_,rfl⟩
        replace H : (laws_toByS.l0 k1 l0 y134 (wrap64 (x4_1 + 1))) = some r:=by first | (rw [hy134];with_reducible exact H) | (have H2_:=(Option.bind_some _ _).symm.trans H;rw [hy134];with_reducible exact H2_) | (have H2_:=(Option.bind_some _ _).symm.trans H;with_reducible exact H2_) | with_reducible exact H | (rw [hy134];exact H) | exact H
        have Ny134:=aM_ hy134
        clear hy134
        have H':=aM_ H
        clear H
        have p131 : 0 ≤ (x4_1 : Int):=oT_ (by first | (with_reducible assumption) | assumption)
        have q131 : x4_1 < (l0.length : Int):=oT_ (by first | (with_reducible assumption) | assumption)
        obtain ⟨ad131,e131,hx131_0,hx131_1⟩:=at_T137 HR0.out x4_1 p131 q131
        cases e131
        replace hx131_0:=(HB.out.cell (wL_ w _ hx131_0)).trans hx131_0
        replace hx131_1:=(HB.out.cell (wL_ w _ hx131_1)).trans hx131_1
        replace p131:=eq_true p131
        replace q131:=eq_true q131
        go_wp2_with (first | ((with_reducible refine gate_callee (f:=115) rfl ?_);refine goesL_ (some 20) rfl rfl Tryd.func115 (by kernel_rfl) rfl #[.agg #[.int .i64 ((rd_T137 l0 x4_1).f0),.bool ((rd_T137 l0 x4_1).f1)]] rfl (by (try simp only [mA_,mC_,mN_]);first | done | rfl | (simp only [lD_,lT_];rfl)) ?_;(with_reducible refine (laws_toBy.calls ((rd_T137 l0 x4_1).f0) ((rd_T137 l0 x4_1).f1) t132 t133 _ A8.out).mono ?_);rintro e w11 ⟨rfl,hb⟩;refine ⟨_,rfl,?_⟩;have n0_:=aM_ (Kd.R_below (by exact rZ_ HO_3) hb);have n1_:=aM_ (bT_ (by exact bZ_ HB) hb);clear HO_3 HB;have HO_3:=n0_;have HB:=n1_;clear n0_ n1_ hb;have p10 : 0 ≤ (x4_1 : Int):=oT_ (by first | (with_reducible assumption) | assumption);have q10 : (x4_1 : Int) < ((x3_1.length : Int) : Int):=oT_ (by first | (with_reducible assumption) | assumption);obtain ⟨go10,co10,eo10,gb10,gl10,cl10,HG10⟩:=Kd.R_form HO_3.out (by omega);(first | cases eo10 | (injection eo10 with ea_ en_ ec_;(first | subst ea_ | (injection ea_ with ea_;subst ea_));subst ec_;clear en_));have GB10:=aM_ gb10;have GG10:=aM_ HG10;clear gb10 gl10 HG10;obtain ⟨ce10,hcl10,hM10,hcc10,hfr10⟩:=Kd.R_elem HO_3.out z85 (x4_1 : Int) p10 q10;obtain rfl:=k85_openM hM10;have hx10_0 : w11.cell? ⟨go10,(x4_1 : Int).toNat * 2,none⟩ = some (.int .i64 ((rd_T85 x3_1 x4_1).f0)):=hcc10 0 _ rfl;have hx10_1 : w11.cell? ⟨go10,(x4_1 : Int).toNat * 2 + 1,none⟩ = some (.bool ((rd_T85 x3_1 x4_1).f1)):=hcc10 1 _ rfl;have hf10_0 : w11.frozen? ⟨go10,(x4_1 : Int).toNat * 2,none⟩ = false:=hfr10 0;have hf10_1 : w11.frozen? ⟨go10,(x4_1 : Int).toNat * 2 + 1,none⟩ = false:=hfr10 1;clear hM10 hcl10 hcc10 hfr10;replace p10:=eq_true p10;replace q10:=eq_true q10;have HX12:=aM_ (show Kd.R k85 85 w11 w.heap.size (fun _=>True) (.slice (some ⟨go10,0,none⟩) x3_1.length co10) x3_1 from (by exact rZ_ HO_3));obtain ⟨ce12,hcl12,hM12,hcc12,hfr12⟩:=Kd.R_elem HX12.out z85 (x4_1 : Int) (oT_ (by first | (with_reducible assumption) | assumption)) (by have h_ : (x4_1 : Int) < ((x3_1.length : Int) : Int):=oT_ (by first | (with_reducible assumption) | assumption);first | exact h_ | (have e_:=(Kd.R_reads' HO_3.out).1;omega) | simpa using h_);obtain rfl:=k85_openM hM12;have HP12:=Kd.R_seg HX12.out (x4_1 : Int) (oT_ (by first | (with_reducible assumption) | assumption)) (by have h_ : (x4_1 : Int) < ((x3_1.length : Int) : Int):=oT_ (by first | (with_reducible assumption) | assumption);first | exact h_ | (have e_:=(Kd.R_reads' HO_3.out).1;omega) | simpa using h_) (seg:=[.int .i64 t132,.bool t133]) (j:=0) hcl12 hcc12 (show 2 ≤ 2 from by decide) (x':=(⟨t132,t133⟩ : S85)) (k85_mkM _ _ _ (⟨t132,t133⟩ : S85) ) (fun _ hk=>hk);have hx12_0:=hcc12 0 _ rfl;(try simp only [show (k85).sz = 2 from rfl,Nat.mul_one,Nat.add_zero] at hx12_0);have hf12_0:=hfr12 0;(try simp only [show (k85).sz = 2 from rfl,Nat.mul_one,Nat.add_zero] at hf12_0);have hx12_1:=hcc12 1 _ rfl;(try simp only [show (k85).sz = 2 from rfl,Nat.mul_one,Nat.add_zero] at hx12_1);have hf12_1:=hfr12 1;(try simp only [show (k85).sz = 2 from rfl,Nat.mul_one,Nat.add_zero] at hf12_1);clear hM12 hcl12 hcc12 hfr12) | ((with_reducible refine gate_store (t:=85) (p:=21) rfl ?_);refine store_event (t:=85) (p:=21) (v:=?vo_w13) (w1:=((w11.setCell ⟨go10,(x4_1 : Int).toNat * 2,none⟩ (.int .i64 t132)).setCell ⟨go10,(x4_1 : Int).toNat * 2 + 1,none⟩ (.bool t133))) ?hg ?ho ?hn ?hr ?_;(case ho=>rfl);(case hg=>rfl);(case hn=>rfl);(case hr=>first | (go_simp;done) | (go_simp;rfl));intro w13 hw;have hg : w11.grownBy w13 (some go10):=(by rw [hw];exact HP12.2);have hp_ : Kd.R k85 85 w13 w.heap.size (fun _=>True) (.slice (some ⟨go10,0,none⟩) x3_1.length co10) y134:=(by rw [hw,Ny134.out];exact HP12.1);clear HP12;have n0_:=aM_ (hp_);have n1_:=aM_ ((by rw [hw];exact bE_ (bE_ (HB.out) GB10.out) GB10.out : Below w.heap.size w w13));clear HO_3 HB;have HO_3:=n0_;have HB:=n1_;clear n0_ n1_ hg hw hp_))
        go_roundg k1
        case measure=>have:=HK1.out;omega
        case rel=>exact ⟨(y134),(wrap64 (x4_1 + 1)),(by first | rfl | (simp;done) | (simp [*];done)),H', ⟨by have:=HK1.out;omega⟩,⟨by exact rZ_ HO_3⟩,⟨by exact bZ_ HB⟩⟩
       ·rw [if_neg c9] at H
        exact absurd H (by simp)
      ·rw [if_neg c7] at H
       exact absurd H (by simp)
     ·rw [if_neg c6] at H
      have c6b0 : decide (x4_1 < (l0.length : Int)) = false:=decide_eq_false c6
      clear c6
      obtain rfl:=Option.some.inj H
      go_wp2
      go_ret
      exact ⟨_,by first | rfl | (simp [errW_none,errW_some] <;> rfl) | (simp [*, errW_none,errW_some] <;> rfl),by exact rZ_ HO_3,by exact bZ_ HB⟩
  ·rw [if_neg c3] at H
   exact absurd H (by simp)
 ·rw [if_neg c2] at H
  exact absurd H (by simp)
def laws_toIndex.f (k : Nat) (a0_0 : ByteArray) (a0_1 : Bool) (l0_2 : List (S137)) : Option (ByteArray × Bool × (List (S85))):=(laws_toByS.f k l0_2).bind fun t138=>(some (a0_0,a0_1,t138))
theorem laws_toIndex.mono : ∀ a0 a1 a2 k,LeO (laws_toIndex.f k a0 a1 a2) (laws_toIndex.f (k + 1) a0 a1 a2):=by
 intro a0 a1 a2 k
 unfold laws_toIndex.f
 repeat' first
   | (with_reducible exact laws_toByS.mono _ _)
   | (with_reducible exact LeO.refl _)
   | (with_reducible exact LeO.none _)
   | (with_reducible refine LeO.ite ?_ ?_)
   | (with_reducible refine LeO.bind ?_ (fun _=>?_))
   | exact laws_toByS.mono _ _
   | exact LeO.none _
   | refine LeO.ite ?_ ?_
   | refine LeO.bind ?_ (fun _=>?_)
set_option maxHeartbeats 8000000 in
set_option maxRecDepth 100000 in
theorem laws_toIndex.calls (k : Nat) (a0_0 : ByteArray) (a0_1 : Bool) (A0_2 : Option Addr) (c0_2 : Nat) (l0_2 : List (S137)) (r1 : ByteArray) (r2 : Bool) (r3 : List (S85)) (w : World) (hr0_2 : Kd.C k137 w A0_2 l0_2.length l0_2) (hc0_2 : l0_2.length ≤ c0_2) (h : laws_toIndex.f k a0_0 a0_1 l0_2 = some (r1,r2,r3)) :
  Calls Tryd.prog 116 #[.agg #[.string a0_0,.bool a0_1,.slice A0_2 l0_2.length c0_2]] w fun e w'=>∃ v2_ : Value,e = .returned (.agg #[.string r1,.bool r2,v2_]) ∧ Kd.R k85 85 w' w.heap.size (fun _=>True) v2_ r3 ∧ Below w.heap.size w w':=by
 have hu134:=Tryd.underlying134
 have hu69:=Tryd.underlying69
 have HR0_2:=aM_ hr0_2
 have HC0_2:=aM_ hc0_2
 clear hr0_2 hc0_2
 have HB:=aM_ (Below.refl w.heap.size w)
 have H : ((laws_toByS.f k l0_2).bind fun t138=>(some (a0_0,a0_1,t138))) = some (r1,r2,r3):=h
 clear h
 replace H:=oB_ H
 obtain ⟨t138,A20,H⟩:=H
 replace H : (some (a0_0,a0_1,t138)) = some (r1,r2,r3):=H
 have A2:=aM_ A20
 clear A20
 simp only [Option.some.injEq,Prod.mk.injEq] at H
 obtain ⟨rfl,rfl,rfl⟩:=H
 go_enter Tryd.func116,Tryd.ntmps116
 go_wp2_with (first | ((with_reducible refine gate_dst (N:=1) rfl ?_);refine box_event ?hg (N:=1) ?hd (cs:=#[.string a0_0,.bool a0_1,.slice A0_2 l0_2.length c0_2]) (t:=134) ?hr ?_;(case hd=>rfl);(case hg=>rfl);(case hr=>first | (go_simp;done) | (go_simp;rfl));intro gb135 hg w3 hbox hb;have n0_:=aM_ (bT_ (by exact bZ_ HB) hb);have n1_:=aM_ (hbox);have n2_:=aM_ ((by rw [hg];exact (bS_ (by exact bZ_ HB)) : w.heap.size ≤ gb135));have n3_:=aM_ ((by rw [hg];exact (bS_ (by exact bZ_ HB)) : w.heap.size ≤ gb135));clear HB;have HB:=n0_;have BK135:=n1_;have GW135:=n2_;have GE135:=n3_;clear n0_ n1_ n2_ n3_ hb hbox hg) | ((with_reducible refine gate_dst (N:=2) rfl ?_);refine box_event ?hg (N:=2) ?hd (cs:=#[.string (⟨#[]⟩ : ByteArray),.bool false,.slice none 0 0]) (t:=69) ?hr ?_;(case hd=>rfl);(case hg=>rfl);(case hr=>first | (go_simp;done) | (go_simp;rfl));intro gb136 hg w4 hbox hb;have n0_:=aM_ (blk_below (g:=gb135) (o:=.cells #[.string a0_0,.bool a0_1,.slice A0_2 l0_2.length c0_2] 134 (0,0)) (by exact kZ_ BK135) hb);have n1_:=aM_ (bT_ (by exact bZ_ HB) hb);have n2_:=aM_ (hbox);have n3_:=aM_ ((by rw [hg];exact (bS_ (by exact bZ_ HB)) : w.heap.size ≤ gb136));have n4_:=aM_ ((by rw [hg];exact (bS_ (by exact bZ_ HB)) : w.heap.size ≤ gb136));have n5_:=aM_ ((by rw [hg];exact nN_ (blk_lt (g:=gb135) (o:=.cells #[.string a0_0,.bool a0_1,.slice A0_2 l0_2.length c0_2] 134 (0,0)) (by exact kZ_ BK135)) : gb135 ≠ gb136));have n6_:=aM_ ((by rw [hg];exact Nat.ne_of_gt (blk_lt (g:=gb135) (o:=.cells #[.string a0_0,.bool a0_1,.slice A0_2 l0_2.length c0_2] 134 (0,0)) (by exact kZ_ BK135)) : gb136 ≠ gb135));clear BK135 HB;have BK135:=n0_;have HB:=n1_;have BK136:=n2_;have GW136:=n3_;have GE136:=n4_;have NB135_136:=n5_;have NB136_135:=n6_;clear n0_ n1_ n2_ n3_ n4_ n5_ n6_ hb hbox hg) | ((with_reducible refine gate_dst (N:=3) rfl ?_);refine box_event ?hg (N:=3) ?hd (cs:=#[.string (⟨#[]⟩ : ByteArray),.bool false,.slice none 0 0]) (t:=69) ?hr ?_;(case hd=>rfl);(case hg=>rfl);(case hr=>first | (go_simp;done) | (go_simp;rfl));intro gb137 hg w5 hbox hb;have n0_:=aM_ (blk_below (g:=gb135) (o:=.cells #[.string a0_0,.bool a0_1,.slice A0_2 l0_2.length c0_2] 134 (0,0)) (by exact kZ_ BK135) hb);have n1_:=aM_ (blk_below (g:=gb136) (o:=.cells #[.string (⟨#[]⟩ : ByteArray),.bool false,.slice none 0 0] 69 (0,0)) (by exact kZ_ BK136) hb);have n2_:=aM_ (bT_ (by exact bZ_ HB) hb);have n3_:=aM_ (hbox);have n4_:=aM_ ((by rw [hg];exact (bS_ (by exact bZ_ HB)) : w.heap.size ≤ gb137));have n5_:=aM_ ((by rw [hg];exact (bS_ (by exact bZ_ HB)) : w.heap.size ≤ gb137));have n6_:=aM_ ((by rw [hg];exact nN_ (blk_lt (g:=gb135) (o:=.cells #[.string a0_0,.bool a0_1,.slice A0_2 l0_2.length c0_2] 134 (0,0)) (by exact kZ_ BK135)) : gb135 ≠ gb137));have n7_:=aM_ ((by rw [hg];exact Nat.ne_of_gt (blk_lt (g:=gb135) (o:=.cells #[.string a0_0,.bool a0_1,.slice A0_2 l0_2.length c0_2] 134 (0,0)) (by exact kZ_ BK135)) : gb137 ≠ gb135));have n8_:=aM_ ((by rw [hg];exact nN_ (blk_lt (g:=gb136) (o:=.cells #[.string (⟨#[]⟩ : ByteArray),.bool false,.slice none 0 0] 69 (0,0)) (by exact kZ_ BK136)) : gb136 ≠ gb137));have n9_:=aM_ ((by rw [hg];exact Nat.ne_of_gt (blk_lt (g:=gb136) (o:=.cells #[.string (⟨#[]⟩ : ByteArray),.bool false,.slice none 0 0] 69 (0,0)) (by exact kZ_ BK136)) : gb137 ≠ gb136));clear BK135 BK136 HB;have BK135:=n0_;have BK136:=n1_;have HB:=n2_;have BK137:=n3_;have GW137:=n4_;have GE137:=n5_;have NB135_137:=n6_;have NB137_135:=n7_;have NB136_137:=n8_;have NB137_136:=n9_;clear n0_ n1_ n2_ n3_ n4_ n5_ n6_ n7_ n8_ n9_ hb hbox hg;have hnb6:=NB135_136.out;have hnc6:=NB136_135.out;have hnb7:=NB135_137.out;have hnc7:=NB137_135.out;have hcz8_0 : w5.cell? ⟨gb135,0,none⟩ = some (.string a0_0):=(kC_ BK135.out 0).trans rfl;have hcz8_1 : w5.cell? ⟨gb135,1,none⟩ = some (.bool a0_1):=(kC_ BK135.out 1).trans rfl;have hcz8_2 : w5.cell? ⟨gb135,2,none⟩ = some (.slice A0_2 l0_2.length c0_2):=(kC_ BK135.out 2).trans rfl;have hfz8_0:=kF_ BK135.out 0;have hfz8_1:=kF_ BK135.out 1;have hfz8_2:=kF_ BK135.out 2;have hnb9:=NB137_136.out;have hnc9:=NB136_137.out;have hcz10_0 : w5.cell? ⟨gb137,0,none⟩ = some (.string (⟨#[]⟩ : ByteArray)):=(kC_ BK137.out 0).trans rfl;have hcz10_1 : w5.cell? ⟨gb137,1,none⟩ = some (.bool false):=(kC_ BK137.out 1).trans rfl;have hcz10_2 : w5.cell? ⟨gb137,2,none⟩ = some (.slice none 0 0):=(kC_ BK137.out 2).trans rfl;have hfz10_0:=kF_ BK137.out 0;have hfz10_1:=kF_ BK137.out 1;have hfz10_2:=kF_ BK137.out 2) | ((with_reducible refine gate_callee (f:=74) rfl ?_);refine goesL_ (some 12) rfl rfl Tryd.func74 (by kernel_rfl) rfl #[.slice A0_2 l0_2.length c0_2] rfl (by (try simp only [mA_,mC_,mN_]);first | done | rfl | (simp only [lD_,lT_];rfl)) ?_;(with_reducible refine (laws_toByS.calls k _ _ l0_2 t138 _ ?side1 ?side2 A2.out).mono ?_);(case side1=>exact Kd.C_below HR0_2.out (by exact bZ_ HB));(case side2=>exact HC0_2.out);rintro e w11 ⟨v139,rfl,ho0,hb⟩;refine ⟨_,rfl,?_⟩;have n0_:=aM_ (Kd.R_lower ho0 (bS_ (by exact bZ_ HB)));have n1_:=aM_ (blk_below (g:=gb135) (o:=.cells #[.string a0_0,.bool a0_1,.slice A0_2 l0_2.length c0_2] 134 (0,0)) (by exact kW_ BK135) hb);have n2_:=aM_ (blk_below (g:=gb136) (o:=.cells #[.string (⟨#[]⟩ : ByteArray),.bool false,.slice none 0 0] 69 (0,0)) (by exact kW_ BK136) hb);have n3_:=aM_ (blk_below (g:=gb137) (o:=.cells #[.string a0_0,.bool a0_1,.slice none 0 0] 69 (0,0)) (by (with_reducible repeat (first | refine kN_ ?_ _ | refine kD_ ?_ | refine kA_ ?_ _));refine kP_ (cs:=#[.string a0_0,.bool false,.slice none 0 0]) ?_ 1 _ rfl;(with_reducible repeat (first | refine kN_ ?_ _ | refine kD_ ?_ | refine kA_ ?_ _));refine kP_ (cs:=#[.string (⟨#[]⟩ : ByteArray),.bool false,.slice none 0 0]) ?_ 0 _ rfl;exact kZ_ BK137) hb);have n4_:=aM_ (bT_ (by exact bZ_ HB) hb);clear BK135 BK136 BK137 HB;have HO140:=n0_;have BK135:=n1_;have BK136:=n2_;have BK137:=n3_;have HB:=n4_;clear n0_ n1_ n2_ n3_ n4_ hb ho0;obtain ⟨Ao12,co12,eo12⟩:=Kd.R_slice HO140.out;subst eo12;have hcz13_0 : w11.cell? ⟨gb137,0,none⟩ = some (.string a0_0):=(kC_ BK137.out 0).trans rfl;have hcz13_1 : w11.cell? ⟨gb137,1,none⟩ = some (.bool a0_1):=(kC_ BK137.out 1).trans rfl;have hcz13_2 : w11.cell? ⟨gb137,2,none⟩ = some (.slice none 0 0):=(kC_ BK137.out 2).trans rfl;have hfz13_0:=kF_ BK137.out 0;have hfz13_1:=kF_ BK137.out 1;have hfz13_2:=kF_ BK137.out 2;have hcz14_0 : w11.cell? ⟨gb136,0,none⟩ = some (.string (⟨#[]⟩ : ByteArray)):=(kC_ BK136.out 0).trans rfl;have hcz14_1 : w11.cell? ⟨gb136,1,none⟩ = some (.bool false):=(kC_ BK136.out 1).trans rfl;have hcz14_2 : w11.cell? ⟨gb136,2,none⟩ = some (.slice none 0 0):=(kC_ BK136.out 2).trans rfl;have hfz14_0:=kF_ BK136.out 0;have hfz14_1:=kF_ BK136.out 1;have hfz14_2:=kF_ BK136.out 2))
 refine bodyPost_ret (results_cell_row rfl _ _ gb136 69 #[.string a0_0,.bool a0_1,.slice Ao12 t138.length co12] (0,0) _ rfl (by (with_reducible repeat (first | refine kN_ ?_ _ | refine kD_ ?_ | refine kA_ ?_ _));refine kP_ (cs:=#[.string a0_0,.bool a0_1,.slice none 0 0]) ?_ 2 _ rfl;(with_reducible repeat (first | refine kN_ ?_ _ | refine kD_ ?_ | refine kA_ ?_ _));refine kP_ (cs:=#[.string a0_0,.bool false,.slice none 0 0]) ?_ 1 _ rfl;(with_reducible repeat (first | refine kN_ ?_ _ | refine kD_ ?_ | refine kA_ ?_ _));refine kP_ (cs:=#[.string (⟨#[]⟩ : ByteArray),.bool false,.slice none 0 0]) ?_ 0 _ rfl;exact kW_ BK136) Tryd.underlying69 rfl (by kernel_rfl)) rfl ?_
 exact ⟨_,by first | rfl | (simp [errW_none,errW_some] <;> rfl) | (simp [*, errW_none,errW_some] <;> rfl),by (with_reducible repeat (first | apply rA_ | apply rN_ | apply rD_));exact Kd.R_mono (Kd.R_far (p:=⟨gb136,2,none⟩) (Kd.R_far (p:=⟨gb136,1,none⟩) (Kd.R_far (p:=⟨gb136,0,none⟩) (Kd.R_far (p:=⟨gb137,2,none⟩) (Kd.R_types (Kd.R_types HO140.out BK137.out (by decide)) BK136.out (by decide)) (fun _ hk=>hk.1.2) (.slice Ao12 t138.length co12)) (fun _ hk=>hk.2) (.string a0_0)) (fun _ hk=>hk.2) (.bool a0_1)) (fun _ hk=>hk.2) (.slice Ao12 t138.length co12)) (fun _ hk=>trivial),by exact bZ_ HB⟩
def laws_toIndexS.l0 : Nat → List (S134) → List (S69) → Int → Option ((List (S69)))
 | 0,_,_,_=>none
 | k + 1,x0,x3,x4=>if x4 < (x0.length : Int) then (if 0 ≤ x4 then ((laws_toIndex.f k ((rd_T134 x0 x4).f0) ((rd_T134 x0 x4).f1) ((rd_T134 x0 x4).f2)).bind fun bt145=>(if x4 < (x3.length : Int) then (laws_toIndexS.l0 k x0 (x3.set (x4 : Int).toNat (⟨bt145.1,bt145.2.1,bt145.2.2⟩ : S69)) (wrap64 (x4 + 1))) else (none))) else (none)) else (some x3)
def laws_toIndexS.f (k : Nat) (l0 : List (S134)) : Option ((List (S69))):=if 0 ≤ (l0.length : Int) then (if ((l0.length : Int) : Int).toNat ≤ 5864062014805 then (laws_toIndexS.l0 k l0 (List.replicate ((l0.length : Int) : Int).toNat z69) 0) else (none)) else (none)
theorem laws_toIndexS.mono_l : ∀ k,(∀ y0 y1 y2,LeO (laws_toIndexS.l0 k y0 y1 y2) (laws_toIndexS.l0 (k + 1) y0 y1 y2))
 | 0=>fun _ _ _ r h=>by simp [laws_toIndexS.l0] at h
 | k + 1=>by
  have ih0:=laws_toIndexS.mono_l k
  ·intro y0 y1 y2
   unfold laws_toIndexS.l0
   repeat' first
   | (with_reducible exact ih0 _ _ _)
   | (with_reducible exact laws_toIndex.mono _ _ _ _)
   | (with_reducible exact LeO.refl _)
   | (with_reducible exact LeO.none _)
   | (with_reducible refine LeO.ite ?_ ?_)
   | (with_reducible refine LeO.bind ?_ (fun _=>?_))
   | exact ih0 _ _ _
   | exact laws_toIndex.mono _ _ _ _
   | exact LeO.none _
   | refine LeO.ite ?_ ?_
   | refine LeO.bind ?_ (fun _=>?_)
theorem laws_toIndexS.mono : ∀ a0 k,LeO (laws_toIndexS.f k a0) (laws_toIndexS.f (k + 1) a0):=by
 intro a0 k
 have ih0:=laws_toIndexS.mono_l k
 unfold laws_toIndexS.f
 repeat' first
   | (with_reducible exact ih0 _ _ _)
   | (with_reducible exact laws_toIndex.mono _ _ _ _)
   | (with_reducible exact LeO.refl _)
   | (with_reducible exact LeO.none _)
   | (with_reducible refine LeO.ite ?_ ?_)
   | (with_reducible refine LeO.bind ?_ (fun _=>?_))
   | exact ih0 _ _ _
   | exact laws_toIndex.mono _ _ _ _
   | exact LeO.none _
   | refine LeO.ite ?_ ?_
   | refine LeO.bind ?_ (fun _=>?_)
set_option maxHeartbeats 8000000 in
set_option maxRecDepth 100000 in
theorem laws_toIndexS.calls (k : Nat) (A0 : Option Addr) (c0 : Nat) (l0 : List (S134)) (r : List (S69)) (w : World) (hr0 : Kd.C k134 w A0 l0.length l0) (hc0 : l0.length ≤ c0) (h : laws_toIndexS.f k l0 = some r) :
  Calls Tryd.prog 75 #[.slice A0 l0.length c0] w fun e w'=>∃ v0_ : Value,e = .returned (v0_) ∧ Kd.S k69 69 w' w.heap.size (fun _=>True) v0_ r ∧ Below w.heap.size w w':=by
 have hu134:=Tryd.underlying134
 have hu69:=Tryd.underlying69
 have HR0:=aM_ hr0
 have HC0:=aM_ hc0
 clear hr0 hc0
 have HB:=aM_ (Below.refl w.heap.size w)
 have H : (if 0 ≤ (l0.length : Int) then (if ((l0.length : Int) : Int).toNat ≤ 5864062014805 then (laws_toIndexS.l0 k l0 (List.replicate ((l0.length : Int) : Int).toNat z69) 0) else (none)) else (none)) = some r:=h
 clear h
 by_cases c2 : 0 ≤ (l0.length : Int)
 ·rw [if_pos c2] at H
  have c2b0:=eq_true c2
  have c2b1 : decide (0 ≤ (l0.length : Int)) = true:=decide_eq_true c2
  clear c2
  by_cases c3 : ((l0.length : Int) : Int).toNat ≤ 5864062014805
  ·rw [if_pos c3] at H
   have c3b0:=eq_true c3
   have c3b1 : decide (((l0.length : Int) : Int).toNat ≤ 5864062014805) = true:=decide_eq_true c3
   clear c3
   obtain ⟨y141,hy141⟩ : ∃ y_ : List (S69),y_ = (List.replicate ((l0.length : Int) : Int).toNat z69):=⟨_,rfl⟩
   replace H : (laws_toIndexS.l0 k l0 y141 0) = some r:=by first | (rw [hy141];with_reducible exact H) | (have H2_:=(Option.bind_some _ _).symm.trans H;rw [hy141];with_reducible exact H2_) | (have H2_:=(Option.bind_some _ _).symm.trans H;with_reducible exact H2_) | with_reducible exact H | (rw [hy141];exact H) | exact H
   have Ny141:=aM_ hy141
   clear hy141
   have H':=aM_ H
   clear H
   go_enter Tryd.func75,Tryd.ntmps75
   go_wp2_with (first | ((with_reducible refine gate_dst (N:=7) rfl ?_);refine Kd.S_make k69 _ 69 rfl (N:=7) rfl 33 _ _ rfl (l0.length : Int) rfl rfl Tryd.underlying33 (.agg #[(.string ⟨#[]⟩),(.bool false),(.slice none 0 0)]) 48 info69 rfl (by decide) (by omega) z69 (ok:=fun _=>True) (okp:=fun _=>True) (k69_mkM _ _ _ z69 (Kd.R_nil _ _ _ _ _)) (fun _ hk=>hk) trivial (oT_ (by first | (with_reducible assumption) | assumption)) (Nat.le_trans (Nat.mul_le_mul_right _ (oT_ (by first | (with_reducible assumption) | assumption) : (l0.length : Int).toNat ≤ 5864062014805)) (by omega)) (Below.refl _ _) (Nat.le_refl _) ?_;intro v142 w4 ho5 hb hg_ hnew_;clear hg_ hnew_;(first | rw [← Ny141.out] at ho5 | (simp only [Int.reduceToNat] at ho5;rw [← Ny141.out] at ho5));have n0_:=aM_ (Kd.S_lower ho5 (bS_ (by exact bZ_ HB)));have n1_:=aM_ (bT_ (by exact bZ_ HB) hb);clear HB;have HO143:=n0_;have HB:=n1_;clear n0_ n1_ hb ho5))
   (try simp only [Act.put,sI_,sS_,sZ_])
   go_loopg [4] k (fun kq v4 w'=>∃ (x3_1 : List (S69)) (x4_1 : Int),v4 = .int .i64 x4_1 ∧ Aside0 (laws_toIndexS.l0 kq l0 x3_1 x4_1 = some r) ∧ Aside0 (kq ≤ k) ∧ Aside0 (Kd.S k69 69 w' w.heap.size (fun _=>True) v142 x3_1) ∧ Aside0 (Below w.heap.size w w'))
   case atStart=>exact ⟨(y141),(0),(by first | rfl | (simp;done) | (simp [*];done)),H', ⟨Nat.le_refl _⟩,⟨by (with_reducible repeat (first | apply Kd.S_alloc | apply Kd.S_drewN | apply Kd.S_drew));exact HO143.out⟩,⟨by exact bZ_ HB⟩⟩
   case round =>
    clear H'
    clear c2b0 c2b1 c3b0 c3b1
    obtain ⟨x3_1,x4_1,rfl,HA,HK1,HO_3,HB⟩:=hrel
    cases gk with
    | zero=>exact absurd HA.out (by simp [laws_toIndexS.l0])
    | succ k1 =>
     have H:=HA.out
     clear HA
     simp only [laws_toIndexS.l0] at H
     by_cases c6 : x4_1 < (l0.length : Int)
     ·rw [if_pos c6] at H
      have c6b0 : decide (x4_1 < (l0.length : Int)) = true:=decide_eq_true c6
      clear c6
      by_cases c7 : 0 ≤ x4_1
      ·rw [if_pos c7] at H
       have c7b0 : decide (0 ≤ x4_1) = true:=decide_eq_true c7
       clear c7
       replace H:=oB_ H
       obtain ⟨⟨t145,t146,t147⟩,A80,H⟩:=H
       replace H : (if x4_1 < (x3_1.length : Int) then (laws_toIndexS.l0 k1 l0 (x3_1.set (x4_1 : Int).toNat (⟨t145,t146,t147⟩ : S69)) (wrap64 (x4_1 + 1))) else (none)) = some r:=H
       have A8:=aM_ A80
       clear A80
       by_cases c9 : x4_1 < (x3_1.length : Int)
       ·rw [if_pos c9] at H
        have c9b0 : decide (x4_1 < (x3_1.length : Int)) = true:=decide_eq_true c9
        clear c9
        obtain ⟨y150,hy150⟩ : ∃ y_ : List (S69),y_ = (x3_1.set (x4_1 : Int).toNat (⟨t145,t146,t147⟩ : S69)):=⟨_,rfl⟩
        replace H : (laws_toIndexS.l0 k1 l0 y150 (wrap64 (x4_1 + 1))) = some r:=by first | (rw [hy150];with_reducible exact H) | (have H2_:=(Option.bind_some _ _).symm.trans H;rw [hy150];with_reducible exact H2_) | (have H2_:=(Option.bind_some _ _).symm.trans H;with_reducible exact H2_) | with_reducible exact H | (rw [hy150];exact H) | exact H
        have Ny150:=aM_ hy150
        clear hy150
        have H':=aM_ H
        clear H
        have p144 : 0 ≤ (x4_1 : Int):=oT_ (by first | (with_reducible assumption) | assumption)
        have q144 : x4_1 < (l0.length : Int):=oT_ (by first | (with_reducible assumption) | assumption)
        obtain ⟨ad144,A144_2,c144_2,e144,hx144_0,hx144_1,hx144_2,hl144_2,hi144_2⟩:=at_T134 HR0.out x4_1 p144 q144
        cases e144
        replace hx144_0:=(HB.out.cell (wL_ w _ hx144_0)).trans hx144_0
        replace hx144_1:=(HB.out.cell (wL_ w _ hx144_1)).trans hx144_1
        replace hx144_2:=(HB.out.cell (wL_ w _ hx144_2)).trans hx144_2
        have HR144_2:=aM_ hi144_2
        have HC144_2:=aM_ hl144_2
        clear hi144_2 hl144_2
        replace p144:=eq_true p144
        replace q144:=eq_true q144
        go_wp2_with (first | ((with_reducible refine gate_callee (f:=116) rfl ?_);refine goesL_ (some 20) rfl rfl Tryd.func116 (by kernel_rfl) rfl #[.agg #[.string ((rd_T134 l0 x4_1).f0),.bool ((rd_T134 l0 x4_1).f1),.slice A144_2 ((rd_T134 l0 x4_1).f2).length c144_2]] rfl (by (try simp only [mA_,mC_,mN_]);first | done | rfl | (simp only [lD_,lT_];rfl)) ?_;(with_reducible refine (laws_toIndex.calls k1 ((rd_T134 l0 x4_1).f0) ((rd_T134 l0 x4_1).f1) _ _ ((rd_T134 l0 x4_1).f2) t145 t146 t147 _ ?side1 ?side2 A8.out).mono ?_);(case side1=>exact cZ_ HR144_2 HB);(case side2=>exact HC144_2.out);rintro e w11 ⟨v148,rfl,ho0,hb⟩;refine ⟨_,rfl,?_⟩;have n0_:=aM_ (Kd.S_elder' (by (with_reducible repeat (first | apply Kd.S_alloc | apply Kd.S_drewN | apply Kd.S_drew));exact HO_3.out) (Kd.R_base ho0) hb);have n1_:=aM_ (Kd.R_lower ho0 (bS_ (by exact bZ_ HB)));have n2_:=aM_ (bT_ (by exact bZ_ HB) hb);clear HO_3 HB;have HO_3:=n0_;have HO149:=n1_;have HB:=n2_;clear n0_ n1_ n2_ hb ho0;have p10 : 0 ≤ (x4_1 : Int):=oT_ (by first | (with_reducible assumption) | assumption);have q10 : (x4_1 : Int) < ((x3_1.length : Int) : Int):=oT_ (by first | (with_reducible assumption) | assumption);obtain ⟨go10,co10,eo10,gb10,gl10,cl10,HG10⟩:=Kd.S_form HO_3.out (by omega);(first | cases eo10 | (injection eo10 with ea_ en_ ec_;(first | subst ea_ | (injection ea_ with ea_;subst ea_));subst ec_;clear en_));have GB10:=aM_ gb10;have GG10:=aM_ HG10;clear gb10 gl10 HG10;obtain ⟨_,ce10,hcl10,hM10,hcc10,hfr10,_,_⟩:=Kd.S_elem HO_3.out z69 (x4_1 : Int) p10 q10;obtain ⟨ve10_2,rfl,ge10_2⟩:=k69_openM hM10;have hx10_0 : w11.cell? ⟨go10,(x4_1 : Int).toNat * 3,none⟩ = some (.string ((rd_T69 x3_1 x4_1).f0)):=hcc10 0 _ rfl;have hx10_1 : w11.cell? ⟨go10,(x4_1 : Int).toNat * 3 + 1,none⟩ = some (.bool ((rd_T69 x3_1 x4_1).f1)):=hcc10 1 _ rfl;have hx10_2 : w11.cell? ⟨go10,(x4_1 : Int).toNat * 3 + 2,none⟩ = some (ve10_2):=hcc10 2 _ rfl;have hf10_0 : w11.frozen? ⟨go10,(x4_1 : Int).toNat * 3,none⟩ = false:=hfr10 0;have hf10_1 : w11.frozen? ⟨go10,(x4_1 : Int).toNat * 3 + 1,none⟩ = false:=hfr10 1;have hf10_2 : w11.frozen? ⟨go10,(x4_1 : Int).toNat * 3 + 2,none⟩ = false:=hfr10 2;clear hM10 hcl10 hcc10 hfr10;replace p10:=eq_true p10;replace q10:=eq_true q10;obtain ⟨Ao12,co12,eo12⟩:=Kd.R_slice HO149.out;subst eo12;have n_:=aM_ (Kd.S_mono (ok':=(fun k_=>some k_ ≠ (.slice Ao12 t147.length co12 : Value).ownBlock)) HO_3.out (fun k_ hk=>hk.2));clear HO_3;have HO_3:=n_;clear n_;have HX13:=aM_ (show Kd.S k69 69 w11 w.heap.size (fun k_=>((fun _=>True)) k_ ∧ ¬ ((fun k_=>some k_ = (.slice Ao12 t147.length co12 : Value).ownBlock)) k_) (.slice (some ⟨go10,0,none⟩) x3_1.length co10) x3_1 from (by (with_reducible repeat (first | apply Kd.S_alloc | apply Kd.S_drewN | apply Kd.S_drew));exact Kd.S_mono HO_3.out (fun k_ hk=>⟨trivial,fun e_=>hk e_⟩)));obtain ⟨oki13,ce13,hcl13,hM13,hcc13,hfr13,hoki13,hH13⟩:=Kd.S_elem HX13.out z69 (x4_1 : Int) (oT_ (by first | (with_reducible assumption) | assumption)) (by have h_ : (x4_1 : Int) < ((x3_1.length : Int) : Int):=oT_ (by first | (with_reducible assumption) | assumption);first | exact h_ | (have e_:=(Kd.S_reads' HO_3.out).1;omega) | simpa using h_);obtain ⟨ve13_2,rfl,ge13_2⟩:=k69_openM hM13;have HP13:=Kd.S_seg hH13 (oT_ (by first | (with_reducible assumption) | assumption)) (by have h_ : (x4_1 : Int) < ((x3_1.length : Int) : Int):=oT_ (by first | (with_reducible assumption) | assumption);first | exact h_ | (have e_:=(Kd.S_reads' HO_3.out).1;omega) | simpa using h_) (seg:=[.string t145,.bool t146,.slice Ao12 t147.length co12]) (j:=0) (show 3 ≤ 3 from by decide) (x':=(⟨t145,t146,t147⟩ : S69)) (k69_mkM _ _ _ (⟨t145,t146,t147⟩ : S69) (Kd.R_mono (Kd.R_tight rfl (Kd.R_mono (ok':=fun k_=>((fun _=>True)) k_ ∧ k_ ≠ go10) (Kd.R_apart' (HO149.out) (Kd.S_typed HO_3.out) (by decide)) (fun k_ hk=>⟨trivial,fun e_=>(hk.2) (by rw [e_];rfl)⟩))) (fun _ h_=>Or.inr (h_)))) (fun _ hk=>hk) (fun k_ hk_=>((Kd.R_mono (ok':=fun k_=>((fun _=>True)) k_ ∧ k_ ≠ go10) (Kd.R_apart' (HO149.out) (Kd.S_typed HO_3.out) (by decide)) (fun k_ hk=>⟨trivial,fun e_=>(hk.2) (by rw [e_];rfl)⟩))).1 k_ hk_.symm);have hx13_0:=hcc13 0 _ rfl;(try simp only [show (k69).sz = 3 from rfl,Nat.mul_one,Nat.add_zero] at hx13_0);have hf13_0:=hfr13 0;(try simp only [show (k69).sz = 3 from rfl,Nat.mul_one,Nat.add_zero] at hf13_0);have hx13_1:=hcc13 1 _ rfl;(try simp only [show (k69).sz = 3 from rfl,Nat.mul_one,Nat.add_zero] at hx13_1);have hf13_1:=hfr13 1;(try simp only [show (k69).sz = 3 from rfl,Nat.mul_one,Nat.add_zero] at hf13_1);have hx13_2:=hcc13 2 _ rfl;(try simp only [show (k69).sz = 3 from rfl,Nat.mul_one,Nat.add_zero] at hx13_2);have hf13_2:=hfr13 2;(try simp only [show (k69).sz = 3 from rfl,Nat.mul_one,Nat.add_zero] at hf13_2);clear hM13 hcl13 hcc13 hfr13 hoki13 hH13) | ((with_reducible refine gate_store (t:=69) (p:=21) rfl ?_);refine store_event (t:=69) (p:=21) (v:=?vo_w14) (w1:=(((w11.setCell ⟨go10,(x4_1 : Int).toNat * 3,none⟩ (.string t145)).setCell ⟨go10,(x4_1 : Int).toNat * 3 + 1,none⟩ (.bool t146)).setCell ⟨go10,(x4_1 : Int).toNat * 3 + 2,none⟩ (.slice Ao12 t147.length co12))) ?hg ?ho ?hn ?hr ?_;(case ho=>rfl);(case hg=>rfl);(case hn=>rfl);(case hr=>first | (go_simp;done) | (go_simp;rfl));intro w14 hw;have hg : w11.grownBy w14 (some go10):=(by rw [hw];exact HP13.2);have hp_ : Kd.S k69 69 w14 w.heap.size (fun _=>True) (.slice (some ⟨go10,0,none⟩) x3_1.length co10) y150:=(by rw [hw,Ny150.out];exact HP13.1);clear HP13;have n0_:=aM_ (hp_);have n1_:=aM_ ((by rw [hw];exact bE_ (bE_ (bE_ (HB.out) GB10.out) GB10.out) GB10.out : Below w.heap.size w w14));clear HO_3 HB HO149;have HO_3:=n0_;have HB:=n1_;clear n0_ n1_ hg hw hp_))
        go_roundg k1
        case measure=>have:=HK1.out;omega
        case rel=>exact ⟨(y150),(wrap64 (x4_1 + 1)),(by first | rfl | (simp;done) | (simp [*];done)),H', ⟨by have:=HK1.out;omega⟩,⟨by (with_reducible repeat (first | apply Kd.S_alloc | apply Kd.S_drewN | apply Kd.S_drew));exact HO_3.out⟩,⟨by exact bZ_ HB⟩⟩
       ·rw [if_neg c9] at H
        exact absurd H (by simp)
      ·rw [if_neg c7] at H
       exact absurd H (by simp)
     ·rw [if_neg c6] at H
      have c6b0 : decide (x4_1 < (l0.length : Int)) = false:=decide_eq_false c6
      clear c6
      obtain rfl:=Option.some.inj H
      go_wp2
      go_ret
      exact ⟨_,by first | rfl | (simp [errW_none,errW_some] <;> rfl) | (simp [*, errW_none,errW_some] <;> rfl),by (with_reducible repeat (first | apply Kd.S_alloc | apply Kd.S_drewN | apply Kd.S_drew));exact HO_3.out,by exact bZ_ HB⟩
  ·rw [if_neg c3] at H
   exact absurd H (by simp)
 ·rw [if_neg c2] at H
  exact absurd H (by simp)
def laws_toDef.f (k : Nat) (a0_0 : ByteArray) (l0_1 : List (S131)) (l0_2 : List (S137)) (l0_3 : List (S134)) : Option (ByteArray × (List (S82)) × (List (S85)) × (List (S69))):=(laws_toColS.f k l0_1).bind fun t154=>((laws_toByS.f k l0_2).bind fun t157=>((laws_toIndexS.f k l0_3).bind fun t160=>(some (a0_0,t154,t157,t160))))
theorem laws_toDef.mono : ∀ a0 a1 a2 a3 k,LeO (laws_toDef.f k a0 a1 a2 a3) (laws_toDef.f (k + 1) a0 a1 a2 a3):=by
 intro a0 a1 a2 a3 k
 unfold laws_toDef.f
 repeat' first
   | (with_reducible exact laws_toByS.mono _ _)
   | (with_reducible exact laws_toColS.mono _ _)
   | (with_reducible exact laws_toIndexS.mono _ _)
   | (with_reducible exact LeO.refl _)
   | (with_reducible exact LeO.none _)
   | (with_reducible refine LeO.ite ?_ ?_)
   | (with_reducible refine LeO.bind ?_ (fun _=>?_))
   | exact laws_toByS.mono _ _
   | exact laws_toColS.mono _ _
   | exact laws_toIndexS.mono _ _
   | exact LeO.none _
   | refine LeO.ite ?_ ?_
   | refine LeO.bind ?_ (fun _=>?_)
set_option maxHeartbeats 8000000 in
set_option maxRecDepth 100000 in
theorem laws_toDef.calls (k : Nat) (a0_0 : ByteArray) (A0_1 : Option Addr) (c0_1 : Nat) (l0_1 : List (S131)) (A0_2 : Option Addr) (c0_2 : Nat) (l0_2 : List (S137)) (A0_3 : Option Addr) (c0_3 : Nat) (l0_3 : List (S134)) (r1 : ByteArray) (r2 : List (S82)) (r3 : List (S85)) (r4 : List (S69)) (w : World) (hr0_1 : Kd.C k131 w A0_1 l0_1.length l0_1) (hc0_1 : l0_1.length ≤ c0_1) (hr0_2 : Kd.C k137 w A0_2 l0_2.length l0_2) (hc0_2 : l0_2.length ≤ c0_2) (hr0_3 : Kd.C k134 w A0_3 l0_3.length l0_3) (hc0_3 : l0_3.length ≤ c0_3) (h : laws_toDef.f k a0_0 l0_1 l0_2 l0_3 = some (r1,r2,r3,r4)) :
  Calls Tryd.prog 29 #[.agg #[.string a0_0,.slice A0_1 l0_1.length c0_1,.slice A0_2 l0_2.length c0_2,.slice A0_3 l0_3.length c0_3]] w fun e w'=>∃ v1_ v2_ v3_ : Value,e = .returned (.agg #[.string r1,v1_,v2_,v3_]) ∧ Kd.R k82 82 w' w.heap.size (fun _=>True) v1_ r2 ∧ Kd.R k85 85 w' w.heap.size (fun _=>True) v2_ r3 ∧ Kd.S k69 69 w' w.heap.size (fun k_=>some k_ ≠ (v2_ : Value).ownBlock) v3_ r4 ∧ Below w.heap.size w w':=by
 have hu46:=Tryd.underlying46
 have hu35:=Tryd.underlying35
 have HR0_1:=aM_ hr0_1
 have HC0_1:=aM_ hc0_1
 clear hr0_1 hc0_1
 have HR0_2:=aM_ hr0_2
 have HC0_2:=aM_ hc0_2
 clear hr0_2 hc0_2
 have HR0_3:=aM_ hr0_3
 have HC0_3:=aM_ hc0_3
 clear hr0_3 hc0_3
 have HB:=aM_ (Below.refl w.heap.size w)
 have H : ((laws_toColS.f k l0_1).bind fun t154=>((laws_toByS.f k l0_2).bind fun t157=>((laws_toIndexS.f k l0_3).bind fun t160=>(some (a0_0,t154,t157,t160))))) = some (r1,r2,r3,r4):=h
 clear h
 replace H:=oB_ H
 obtain ⟨t154,A20,H⟩:=H
 replace H : ((laws_toByS.f k l0_2).bind fun t157=>((laws_toIndexS.f k l0_3).bind fun t160=>(some (a0_0,t154,t157,t160)))) = some (r1,r2,r3,r4):=H
 have A2:=aM_ A20
 clear A20
 replace H:=oB_ H
 obtain ⟨t157,A30,H⟩:=H
 replace H : ((laws_toIndexS.f k l0_3).bind fun t160=>(some (a0_0,t154,t157,t160))) = some (r1,r2,r3,r4):=H
 have A3:=aM_ A30
 clear A30
 replace H:=oB_ H
 obtain ⟨t160,A40,H⟩:=H
 replace H : (some (a0_0,t154,t157,t160)) = some (r1,r2,r3,r4):=H
 have A4:=aM_ A40
 clear A40
 simp only [Option.some.injEq,Prod.mk.injEq] at H
 obtain ⟨rfl,rfl,rfl,rfl⟩:=H
 go_enter Tryd.func29,Tryd.ntmps29
 go_wp2_with (first | ((with_reducible refine gate_dst (N:=1) rfl ?_);refine box_event ?hg (N:=1) ?hd (cs:=#[.string a0_0,.slice A0_1 l0_1.length c0_1,.slice A0_2 l0_2.length c0_2,.slice A0_3 l0_3.length c0_3]) (t:=46) ?hr ?_;(case hd=>rfl);(case hg=>rfl);(case hr=>first | (go_simp;done) | (go_simp;rfl));intro gb151 hg w5 hbox hb;have n0_:=aM_ (bT_ (by exact bZ_ HB) hb);have n1_:=aM_ (hbox);have n2_:=aM_ ((by rw [hg];exact (bS_ (by exact bZ_ HB)) : w.heap.size ≤ gb151));have n3_:=aM_ ((by rw [hg];exact (bS_ (by exact bZ_ HB)) : w.heap.size ≤ gb151));clear HB;have HB:=n0_;have BK151:=n1_;have GW151:=n2_;have GE151:=n3_;clear n0_ n1_ n2_ n3_ hb hbox hg) | ((with_reducible refine gate_dst (N:=2) rfl ?_);refine box_event ?hg (N:=2) ?hd (cs:=#[.string (⟨#[]⟩ : ByteArray),.slice none 0 0,.slice none 0 0,.slice none 0 0]) (t:=35) ?hr ?_;(case hd=>rfl);(case hg=>rfl);(case hr=>first | (go_simp;done) | (go_simp;rfl));intro gb152 hg w6 hbox hb;have n0_:=aM_ (blk_below (g:=gb151) (o:=.cells #[.string a0_0,.slice A0_1 l0_1.length c0_1,.slice A0_2 l0_2.length c0_2,.slice A0_3 l0_3.length c0_3] 46 (0,0)) (by exact kZ_ BK151) hb);have n1_:=aM_ (bT_ (by exact bZ_ HB) hb);have n2_:=aM_ (hbox);have n3_:=aM_ ((by rw [hg];exact (bS_ (by exact bZ_ HB)) : w.heap.size ≤ gb152));have n4_:=aM_ ((by rw [hg];exact (bS_ (by exact bZ_ HB)) : w.heap.size ≤ gb152));have n5_:=aM_ ((by rw [hg];exact nN_ (blk_lt (g:=gb151) (o:=.cells #[.string a0_0,.slice A0_1 l0_1.length c0_1,.slice A0_2 l0_2.length c0_2,.slice A0_3 l0_3.length c0_3] 46 (0,0)) (by exact kZ_ BK151)) : gb151 ≠ gb152));have n6_:=aM_ ((by rw [hg];exact Nat.ne_of_gt (blk_lt (g:=gb151) (o:=.cells #[.string a0_0,.slice A0_1 l0_1.length c0_1,.slice A0_2 l0_2.length c0_2,.slice A0_3 l0_3.length c0_3] 46 (0,0)) (by exact kZ_ BK151)) : gb152 ≠ gb151));clear BK151 HB;have BK151:=n0_;have HB:=n1_;have BK152:=n2_;have GW152:=n3_;have GE152:=n4_;have NB151_152:=n5_;have NB152_151:=n6_;clear n0_ n1_ n2_ n3_ n4_ n5_ n6_ hb hbox hg) | ((with_reducible refine gate_dst (N:=3) rfl ?_);refine box_event ?hg (N:=3) ?hd (cs:=#[.string (⟨#[]⟩ : ByteArray),.slice none 0 0,.slice none 0 0,.slice none 0 0]) (t:=35) ?hr ?_;(case hd=>rfl);(case hg=>rfl);(case hr=>first | (go_simp;done) | (go_simp;rfl));intro gb153 hg w7 hbox hb;have n0_:=aM_ (blk_below (g:=gb151) (o:=.cells #[.string a0_0,.slice A0_1 l0_1.length c0_1,.slice A0_2 l0_2.length c0_2,.slice A0_3 l0_3.length c0_3] 46 (0,0)) (by exact kZ_ BK151) hb);have n1_:=aM_ (blk_below (g:=gb152) (o:=.cells #[.string (⟨#[]⟩ : ByteArray),.slice none 0 0,.slice none 0 0,.slice none 0 0] 35 (0,0)) (by exact kZ_ BK152) hb);have n2_:=aM_ (bT_ (by exact bZ_ HB) hb);have n3_:=aM_ (hbox);have n4_:=aM_ ((by rw [hg];exact (bS_ (by exact bZ_ HB)) : w.heap.size ≤ gb153));have n5_:=aM_ ((by rw [hg];exact (bS_ (by exact bZ_ HB)) : w.heap.size ≤ gb153));have n6_:=aM_ ((by rw [hg];exact nN_ (blk_lt (g:=gb151) (o:=.cells #[.string a0_0,.slice A0_1 l0_1.length c0_1,.slice A0_2 l0_2.length c0_2,.slice A0_3 l0_3.length c0_3] 46 (0,0)) (by exact kZ_ BK151)) : gb151 ≠ gb153));have n7_:=aM_ ((by rw [hg];exact Nat.ne_of_gt (blk_lt (g:=gb151) (o:=.cells #[.string a0_0,.slice A0_1 l0_1.length c0_1,.slice A0_2 l0_2.length c0_2,.slice A0_3 l0_3.length c0_3] 46 (0,0)) (by exact kZ_ BK151)) : gb153 ≠ gb151));have n8_:=aM_ ((by rw [hg];exact nN_ (blk_lt (g:=gb152) (o:=.cells #[.string (⟨#[]⟩ : ByteArray),.slice none 0 0,.slice none 0 0,.slice none 0 0] 35 (0,0)) (by exact kZ_ BK152)) : gb152 ≠ gb153));have n9_:=aM_ ((by rw [hg];exact Nat.ne_of_gt (blk_lt (g:=gb152) (o:=.cells #[.string (⟨#[]⟩ : ByteArray),.slice none 0 0,.slice none 0 0,.slice none 0 0] 35 (0,0)) (by exact kZ_ BK152)) : gb153 ≠ gb152));clear BK151 BK152 HB;have BK151:=n0_;have BK152:=n1_;have HB:=n2_;have BK153:=n3_;have GW153:=n4_;have GE153:=n5_;have NB151_153:=n6_;have NB153_151:=n7_;have NB152_153:=n8_;have NB153_152:=n9_;clear n0_ n1_ n2_ n3_ n4_ n5_ n6_ n7_ n8_ n9_ hb hbox hg;have hnb8:=NB151_152.out;have hnc8:=NB152_151.out;have hnb9:=NB151_153.out;have hnc9:=NB153_151.out;have hcz10_0 : w7.cell? ⟨gb151,0,none⟩ = some (.string a0_0):=(kC_ BK151.out 0).trans rfl;have hcz10_1 : w7.cell? ⟨gb151,1,none⟩ = some (.slice A0_1 l0_1.length c0_1):=(kC_ BK151.out 1).trans rfl;have hcz10_2 : w7.cell? ⟨gb151,2,none⟩ = some (.slice A0_2 l0_2.length c0_2):=(kC_ BK151.out 2).trans rfl;have hcz10_3 : w7.cell? ⟨gb151,3,none⟩ = some (.slice A0_3 l0_3.length c0_3):=(kC_ BK151.out 3).trans rfl;have hfz10_0:=kF_ BK151.out 0;have hfz10_1:=kF_ BK151.out 1;have hfz10_2:=kF_ BK151.out 2;have hfz10_3:=kF_ BK151.out 3;have hnb11:=NB153_152.out;have hnc11:=NB152_153.out;have hcz12_0 : w7.cell? ⟨gb153,0,none⟩ = some (.string (⟨#[]⟩ : ByteArray)):=(kC_ BK153.out 0).trans rfl;have hcz12_1 : w7.cell? ⟨gb153,1,none⟩ = some (.slice none 0 0):=(kC_ BK153.out 1).trans rfl;have hcz12_2 : w7.cell? ⟨gb153,2,none⟩ = some (.slice none 0 0):=(kC_ BK153.out 2).trans rfl;have hcz12_3 : w7.cell? ⟨gb153,3,none⟩ = some (.slice none 0 0):=(kC_ BK153.out 3).trans rfl;have hfz12_0:=kF_ BK153.out 0;have hfz12_1:=kF_ BK153.out 1;have hfz12_2:=kF_ BK153.out 2;have hfz12_3:=kF_ BK153.out 3) | ((with_reducible refine gate_callee (f:=73) rfl ?_);refine goesL_ (some 9) rfl rfl Tryd.func73 (by kernel_rfl) rfl #[.slice A0_1 l0_1.length c0_1] rfl (by (try simp only [mA_,mC_,mN_]);first | done | rfl | (simp only [lD_,lT_];rfl)) ?_;(with_reducible refine (laws_toColS.calls k _ _ l0_1 t154 _ ?side1 ?side2 A2.out).mono ?_);(case side1=>exact Kd.C_below HR0_1.out (by exact bZ_ HB));(case side2=>exact HC0_1.out);rintro e w13 ⟨v155,rfl,ho0,hb⟩;refine ⟨_,rfl,?_⟩;have n0_:=aM_ (Kd.R_lower ho0 (bS_ (by exact bZ_ HB)));have n1_:=aM_ (blk_below (g:=gb151) (o:=.cells #[.string a0_0,.slice A0_1 l0_1.length c0_1,.slice A0_2 l0_2.length c0_2,.slice A0_3 l0_3.length c0_3] 46 (0,0)) (by exact kW_ BK151) hb);have n2_:=aM_ (blk_below (g:=gb152) (o:=.cells #[.string (⟨#[]⟩ : ByteArray),.slice none 0 0,.slice none 0 0,.slice none 0 0] 35 (0,0)) (by exact kW_ BK152) hb);have n3_:=aM_ (blk_below (g:=gb153) (o:=.cells #[.string a0_0,.slice none 0 0,.slice none 0 0,.slice none 0 0] 35 (0,0)) (by (with_reducible repeat (first | refine kN_ ?_ _ | refine kD_ ?_ | refine kA_ ?_ _));refine kP_ (cs:=#[.string (⟨#[]⟩ : ByteArray),.slice none 0 0,.slice none 0 0,.slice none 0 0]) ?_ 0 _ rfl;exact kZ_ BK153) hb);have n4_:=aM_ (bT_ (by exact bZ_ HB) hb);clear BK151 BK152 BK153 HB;have HO156:=n0_;have BK151:=n1_;have BK152:=n2_;have BK153:=n3_;have HB:=n4_;clear n0_ n1_ n2_ n3_ n4_ hb ho0;obtain ⟨Ao14,co14,eo14⟩:=Kd.R_slice HO156.out;subst eo14;have hcz15_0 : w13.cell? ⟨gb153,0,none⟩ = some (.string a0_0):=(kC_ BK153.out 0).trans rfl;have hcz15_1 : w13.cell? ⟨gb153,1,none⟩ = some (.slice none 0 0):=(kC_ BK153.out 1).trans rfl;have hcz15_2 : w13.cell? ⟨gb153,2,none⟩ = some (.slice none 0 0):=(kC_ BK153.out 2).trans rfl;have hcz15_3 : w13.cell? ⟨gb153,3,none⟩ = some (.slice none 0 0):=(kC_ BK153.out 3).trans rfl;have hfz15_0:=kF_ BK153.out 0;have hfz15_1:=kF_ BK153.out 1;have hfz15_2:=kF_ BK153.out 2;have hfz15_3:=kF_ BK153.out 3;have hcz16_0 : w13.cell? ⟨gb151,0,none⟩ = some (.string a0_0):=(kC_ BK151.out 0).trans rfl;have hcz16_1 : w13.cell? ⟨gb151,1,none⟩ = some (.slice A0_1 l0_1.length c0_1):=(kC_ BK151.out 1).trans rfl;have hcz16_2 : w13.cell? ⟨gb151,2,none⟩ = some (.slice A0_2 l0_2.length c0_2):=(kC_ BK151.out 2).trans rfl;have hcz16_3 : w13.cell? ⟨gb151,3,none⟩ = some (.slice A0_3 l0_3.length c0_3):=(kC_ BK151.out 3).trans rfl;have hfz16_0:=kF_ BK151.out 0;have hfz16_1:=kF_ BK151.out 1;have hfz16_2:=kF_ BK151.out 2;have hfz16_3:=kF_ BK151.out 3) | ((with_reducible refine gate_callee (f:=74) rfl ?_);refine goesL_ (some 13) rfl rfl Tryd.func74 (by kernel_rfl) rfl #[.slice A0_2 l0_2.length c0_2] rfl (by (try simp only [mA_,mC_,mN_]);first | done | rfl | (simp only [lD_,lT_];rfl)) ?_;(with_reducible refine (laws_toByS.calls k _ _ l0_2 t157 _ ?side1 ?side2 A3.out).mono ?_);(case side1=>exact Kd.C_below HR0_2.out (by exact bZ_ HB));(case side2=>exact HC0_2.out);rintro e w17 ⟨v158,rfl,ho0,hb⟩;refine ⟨_,rfl,?_⟩;have n0_:=aM_ (Kd.R_below (by (with_reducible repeat (first | apply rA_ | apply rN_ | apply rD_));exact (Kd.R_mono (Kd.R_far (p:=⟨gb153,1,none⟩) (Kd.R_types HO156.out BK153.out (by decide)) (fun _ hk=>hk.2) (.slice Ao14 t154.length co14)) (fun _ h_=>h_.1))) hb);have n1_:=aM_ (Kd.R_lower ho0 (bS_ (by exact bZ_ HB)));have n2_:=aM_ (blk_below (g:=gb151) (o:=.cells #[.string a0_0,.slice A0_1 l0_1.length c0_1,.slice A0_2 l0_2.length c0_2,.slice A0_3 l0_3.length c0_3] 46 (0,0)) (by exact kW_ BK151) hb);have n3_:=aM_ (blk_below (g:=gb152) (o:=.cells #[.string (⟨#[]⟩ : ByteArray),.slice none 0 0,.slice none 0 0,.slice none 0 0] 35 (0,0)) (by exact kW_ BK152) hb);have n4_:=aM_ (blk_below (g:=gb153) (o:=.cells #[.string a0_0,.slice Ao14 t154.length co14,.slice none 0 0,.slice none 0 0] 35 (0,0)) (by (with_reducible repeat (first | refine kN_ ?_ _ | refine kD_ ?_ | refine kA_ ?_ _));refine kP_ (cs:=#[.string a0_0,.slice none 0 0,.slice none 0 0,.slice none 0 0]) ?_ 1 _ rfl;exact kZ_ BK153) hb);have n5_:=aM_ (bT_ (by exact bZ_ HB) hb);clear HO156 BK151 BK152 BK153 HB;have HO156:=n0_;have HO159:=n1_;have BK151:=n2_;have BK152:=n3_;have BK153:=n4_;have HB:=n5_;clear n0_ n1_ n2_ n3_ n4_ n5_ hb ho0;obtain ⟨Ao18,co18,eo18⟩:=Kd.R_slice HO159.out;subst eo18;have hcz19_0 : w17.cell? ⟨gb153,0,none⟩ = some (.string a0_0):=(kC_ BK153.out 0).trans rfl;have hcz19_1 : w17.cell? ⟨gb153,1,none⟩ = some (.slice Ao14 t154.length co14):=(kC_ BK153.out 1).trans rfl;have hcz19_2 : w17.cell? ⟨gb153,2,none⟩ = some (.slice none 0 0):=(kC_ BK153.out 2).trans rfl;have hcz19_3 : w17.cell? ⟨gb153,3,none⟩ = some (.slice none 0 0):=(kC_ BK153.out 3).trans rfl;have hfz19_0:=kF_ BK153.out 0;have hfz19_1:=kF_ BK153.out 1;have hfz19_2:=kF_ BK153.out 2;have hfz19_3:=kF_ BK153.out 3;have hcz20_0 : w17.cell? ⟨gb151,0,none⟩ = some (.string a0_0):=(kC_ BK151.out 0).trans rfl;have hcz20_1 : w17.cell? ⟨gb151,1,none⟩ = some (.slice A0_1 l0_1.length c0_1):=(kC_ BK151.out 1).trans rfl;have hcz20_2 : w17.cell? ⟨gb151,2,none⟩ = some (.slice A0_2 l0_2.length c0_2):=(kC_ BK151.out 2).trans rfl;have hcz20_3 : w17.cell? ⟨gb151,3,none⟩ = some (.slice A0_3 l0_3.length c0_3):=(kC_ BK151.out 3).trans rfl;have hfz20_0:=kF_ BK151.out 0;have hfz20_1:=kF_ BK151.out 1;have hfz20_2:=kF_ BK151.out 2;have hfz20_3:=kF_ BK151.out 3) | ((with_reducible refine gate_callee (f:=75) rfl ?_);refine goesL_ (some 17) rfl rfl Tryd.func75 (by kernel_rfl) rfl #[.slice A0_3 l0_3.length c0_3] rfl (by (try simp only [mA_,mC_,mN_]);first | done | rfl | (simp only [lD_,lT_];rfl)) ?_;(with_reducible refine (laws_toIndexS.calls k _ _ l0_3 t160 _ ?side1 ?side2 A4.out).mono ?_);(case side1=>exact Kd.C_below HR0_3.out (by exact bZ_ HB));(case side2=>exact HC0_3.out);rintro e w21 ⟨v161,rfl,ho0,hb⟩;refine ⟨_,rfl,?_⟩;have n0_:=aM_ (Kd.R_below (by (with_reducible repeat (first | apply rA_ | apply rN_ | apply rD_));exact (Kd.R_mono (Kd.R_far (p:=⟨gb153,2,none⟩) (Kd.R_types HO156.out BK153.out (by decide)) (fun _ hk=>hk.2) (.slice Ao18 t157.length co18)) (fun _ h_=>h_.1))) hb);have n1_:=aM_ (Kd.R_below (by (with_reducible repeat (first | apply rA_ | apply rN_ | apply rD_));exact (Kd.R_mono (Kd.R_far (p:=⟨gb153,2,none⟩) (Kd.R_types HO159.out BK153.out (by decide)) (fun _ hk=>hk.2) (.slice Ao18 t157.length co18)) (fun _ h_=>h_.1))) hb);have n2_:=aM_ (Kd.S_lower (Kd.S_new' ho0 (Kd.R_lt (by (with_reducible repeat (first | apply rA_ | apply rN_ | apply rD_));exact (Kd.R_mono (Kd.R_far (p:=⟨gb153,2,none⟩) (Kd.R_types HO159.out BK153.out (by decide)) (fun _ hk=>hk.2) (.slice Ao18 t157.length co18)) (fun _ h_=>h_.1))))) (bS_ (by exact bZ_ HB)));have n3_:=aM_ (blk_below (g:=gb151) (o:=.cells #[.string a0_0,.slice A0_1 l0_1.length c0_1,.slice A0_2 l0_2.length c0_2,.slice A0_3 l0_3.length c0_3] 46 (0,0)) (by exact kW_ BK151) hb);have n4_:=aM_ (blk_below (g:=gb152) (o:=.cells #[.string (⟨#[]⟩ : ByteArray),.slice none 0 0,.slice none 0 0,.slice none 0 0] 35 (0,0)) (by exact kW_ BK152) hb);have n5_:=aM_ (blk_below (g:=gb153) (o:=.cells #[.string a0_0,.slice Ao14 t154.length co14,.slice Ao18 t157.length co18,.slice none 0 0] 35 (0,0)) (by (with_reducible repeat (first | refine kN_ ?_ _ | refine kD_ ?_ | refine kA_ ?_ _));refine kP_ (cs:=#[.string a0_0,.slice Ao14 t154.length co14,.slice none 0 0,.slice none 0 0]) ?_ 2 _ rfl;exact kZ_ BK153) hb);have n6_:=aM_ (bT_ (by exact bZ_ HB) hb);clear HO156 HO159 BK151 BK152 BK153 HB;have HO156:=n0_;have HO159:=n1_;have HO162:=n2_;have BK151:=n3_;have BK152:=n4_;have BK153:=n5_;have HB:=n6_;clear n0_ n1_ n2_ n3_ n4_ n5_ n6_ hb ho0;obtain ⟨Ao22,co22,eo22⟩:=Kd.S_slice HO162.out;subst eo22;have hcz23_0 : w21.cell? ⟨gb153,0,none⟩ = some (.string a0_0):=(kC_ BK153.out 0).trans rfl;have hcz23_1 : w21.cell? ⟨gb153,1,none⟩ = some (.slice Ao14 t154.length co14):=(kC_ BK153.out 1).trans rfl;have hcz23_2 : w21.cell? ⟨gb153,2,none⟩ = some (.slice Ao18 t157.length co18):=(kC_ BK153.out 2).trans rfl;have hcz23_3 : w21.cell? ⟨gb153,3,none⟩ = some (.slice none 0 0):=(kC_ BK153.out 3).trans rfl;have hfz23_0:=kF_ BK153.out 0;have hfz23_1:=kF_ BK153.out 1;have hfz23_2:=kF_ BK153.out 2;have hfz23_3:=kF_ BK153.out 3;have hcz24_0 : w21.cell? ⟨gb152,0,none⟩ = some (.string (⟨#[]⟩ : ByteArray)):=(kC_ BK152.out 0).trans rfl;have hcz24_1 : w21.cell? ⟨gb152,1,none⟩ = some (.slice none 0 0):=(kC_ BK152.out 1).trans rfl;have hcz24_2 : w21.cell? ⟨gb152,2,none⟩ = some (.slice none 0 0):=(kC_ BK152.out 2).trans rfl;have hcz24_3 : w21.cell? ⟨gb152,3,none⟩ = some (.slice none 0 0):=(kC_ BK152.out 3).trans rfl;have hfz24_0:=kF_ BK152.out 0;have hfz24_1:=kF_ BK152.out 1;have hfz24_2:=kF_ BK152.out 2;have hfz24_3:=kF_ BK152.out 3))
 refine bodyPost_ret (results_cell_row rfl _ _ gb152 35 #[.string a0_0,.slice Ao14 t154.length co14,.slice Ao18 t157.length co18,.slice Ao22 t160.length co22] (0,0) _ rfl (by (with_reducible repeat (first | refine kN_ ?_ _ | refine kD_ ?_ | refine kA_ ?_ _));refine kP_ (cs:=#[.string a0_0,.slice Ao14 t154.length co14,.slice Ao18 t157.length co18,.slice none 0 0]) ?_ 3 _ rfl;(with_reducible repeat (first | refine kN_ ?_ _ | refine kD_ ?_ | refine kA_ ?_ _));refine kP_ (cs:=#[.string a0_0,.slice Ao14 t154.length co14,.slice none 0 0,.slice none 0 0]) ?_ 2 _ rfl;(with_reducible repeat (first | refine kN_ ?_ _ | refine kD_ ?_ | refine kA_ ?_ _));refine kP_ (cs:=#[.string a0_0,.slice none 0 0,.slice none 0 0,.slice none 0 0]) ?_ 1 _ rfl;(with_reducible repeat (first | refine kN_ ?_ _ | refine kD_ ?_ | refine kA_ ?_ _));refine kP_ (cs:=#[.string (⟨#[]⟩ : ByteArray),.slice none 0 0,.slice none 0 0,.slice none 0 0]) ?_ 0 _ rfl;exact kW_ BK152) Tryd.underlying35 rfl (by kernel_rfl)) rfl ?_
 exact ⟨_,_,_,by first | rfl | (simp [errW_none,errW_some] <;> rfl) | (simp [*, errW_none,errW_some] <;> rfl),by (with_reducible repeat (first | apply rA_ | apply rN_ | apply rD_));exact Kd.R_mono (Kd.R_far (p:=⟨gb152,3,none⟩) (Kd.R_far (p:=⟨gb152,2,none⟩) (Kd.R_far (p:=⟨gb152,1,none⟩) (Kd.R_far (p:=⟨gb152,0,none⟩) (Kd.R_far (p:=⟨gb153,3,none⟩) (Kd.R_types (Kd.R_types HO156.out BK153.out (by decide)) BK152.out (by decide)) (fun _ hk=>hk.1.2) (.slice Ao22 t160.length co22)) (fun _ hk=>hk.2) (.string a0_0)) (fun _ hk=>hk.2) (.slice Ao14 t154.length co14)) (fun _ hk=>hk.2) (.slice Ao18 t157.length co18)) (fun _ hk=>hk.2) (.slice Ao22 t160.length co22)) (fun _ hk=>trivial),by (with_reducible repeat (first | apply rA_ | apply rN_ | apply rD_));exact Kd.R_mono (Kd.R_far (p:=⟨gb152,3,none⟩) (Kd.R_far (p:=⟨gb152,2,none⟩) (Kd.R_far (p:=⟨gb152,1,none⟩) (Kd.R_far (p:=⟨gb152,0,none⟩) (Kd.R_far (p:=⟨gb153,3,none⟩) (Kd.R_types (Kd.R_types HO159.out BK153.out (by decide)) BK152.out (by decide)) (fun _ hk=>hk.1.2) (.slice Ao22 t160.length co22)) (fun _ hk=>hk.2) (.string a0_0)) (fun _ hk=>hk.2) (.slice Ao14 t154.length co14)) (fun _ hk=>hk.2) (.slice Ao18 t157.length co18)) (fun _ hk=>hk.2) (.slice Ao22 t160.length co22)) (fun _ hk=>trivial),by (with_reducible repeat (first | apply Kd.S_alloc | apply Kd.S_drewN | apply Kd.S_drew));exact Kd.S_mono (Kd.S_far (p:=⟨gb152,3,none⟩) (Kd.S_far (p:=⟨gb152,2,none⟩) (Kd.S_far (p:=⟨gb152,1,none⟩) (Kd.S_far (p:=⟨gb152,0,none⟩) (Kd.S_far (p:=⟨gb153,3,none⟩) (Kd.S_types (Kd.S_types HO162.out BK153.out (by decide)) BK152.out (by decide)) (fun _ hk=>hk.1.2) (.slice Ao22 t160.length co22)) (fun _ hk=>hk.2) (.string a0_0)) (fun _ hk=>hk.2) (.slice Ao14 t154.length co14)) (fun _ hk=>hk.2) (.slice Ao18 t157.length co18)) (fun _ hk=>hk.2) (.slice Ao22 t160.length co22)) (fun _ hk=>hk.1.1.2),by exact bZ_ HB⟩
def laws_toDefS.l0 : Nat → List (S46) → List (S35) → Int → Option ((List (S35)))
 | 0,_,_,_=>none
 | k + 1,x0,x3,x4=>if x4 < (x0.length : Int) then (if 0 ≤ x4 then ((laws_toDef.f k ((rd_T46 x0 x4).f0) ((rd_T46 x0 x4).f1) ((rd_T46 x0 x4).f2) ((rd_T46 x0 x4).f3)).bind fun bt167=>(if x4 < (x3.length : Int) then (laws_toDefS.l0 k x0 (x3.set (x4 : Int).toNat (⟨bt167.1,bt167.2.1,bt167.2.2.1,bt167.2.2.2⟩ : S35)) (wrap64 (x4 + 1))) else (none))) else (none)) else (some x3)
def laws_toDefS.f (k : Nat) (l0 : List (S46)) : Option ((List (S35))):=if 0 ≤ (l0.length : Int) then (if ((l0.length : Int) : Int).toNat ≤ 3198579280802 then (laws_toDefS.l0 k l0 (List.replicate ((l0.length : Int) : Int).toNat z35) 0) else (none)) else (none)
theorem laws_toDefS.mono_l : ∀ k,(∀ y0 y1 y2,LeO (laws_toDefS.l0 k y0 y1 y2) (laws_toDefS.l0 (k + 1) y0 y1 y2))
 | 0=>fun _ _ _ r h=>by simp [laws_toDefS.l0] at h
 | k + 1=>by
  have ih0:=laws_toDefS.mono_l k
  ·intro y0 y1 y2
   unfold laws_toDefS.l0
   repeat' first
   | (with_reducible exact ih0 _ _ _)
   | (with_reducible exact laws_toDef.mono _ _ _ _ _)
   | (with_reducible exact LeO.refl _)
   | (with_reducible exact LeO.none _)
   | (with_reducible refine LeO.ite ?_ ?_)
   | (with_reducible refine LeO.bind ?_ (fun _=>?_))
   | exact ih0 _ _ _
   | exact laws_toDef.mono _ _ _ _ _
   | exact LeO.none _
   | refine LeO.ite ?_ ?_
   | refine LeO.bind ?_ (fun _=>?_)
theorem laws_toDefS.mono : ∀ a0 k,LeO (laws_toDefS.f k a0) (laws_toDefS.f (k + 1) a0):=by
 intro a0 k
 have ih0:=laws_toDefS.mono_l k
 unfold laws_toDefS.f
 repeat' first
   | (with_reducible exact ih0 _ _ _)
   | (with_reducible exact laws_toDef.mono _ _ _ _ _)
   | (with_reducible exact LeO.refl _)
   | (with_reducible exact LeO.none _)
   | (with_reducible refine LeO.ite ?_ ?_)
   | (with_reducible refine LeO.bind ?_ (fun _=>?_))
   | exact ih0 _ _ _
   | exact laws_toDef.mono _ _ _ _ _
   | exact LeO.none _
   | refine LeO.ite ?_ ?_
   | refine LeO.bind ?_ (fun _=>?_)
set_option maxHeartbeats 8000000 in
set_option maxRecDepth 100000 in
theorem laws_toDefS.calls (k : Nat) (A0 : Option Addr) (c0 : Nat) (l0 : List (S46)) (r : List (S35)) (w : World) (hr0 : Kd.C k46 w A0 l0.length l0) (hc0 : l0.length ≤ c0) (h : laws_toDefS.f k l0 = some r) :
  Calls Tryd.prog 16 #[.slice A0 l0.length c0] w fun e w'=>∃ v0_ : Value,e = .returned (v0_) ∧ Kd.R k35 35 w' w.heap.size (fun _=>True) v0_ r ∧ Below w.heap.size w w':=by
 have hu46:=Tryd.underlying46
 have hu35:=Tryd.underlying35
 have HR0:=aM_ hr0
 have HC0:=aM_ hc0
 clear hr0 hc0
 have HB:=aM_ (Below.refl w.heap.size w)
 have H : (if 0 ≤ (l0.length : Int) then (if ((l0.length : Int) : Int).toNat ≤ 3198579280802 then (laws_toDefS.l0 k l0 (List.replicate ((l0.length : Int) : Int).toNat z35) 0) else (none)) else (none)) = some r:=h
 clear h
 by_cases c2 : 0 ≤ (l0.length : Int)
 ·rw [if_pos c2] at H
  have c2b0:=eq_true c2
  have c2b1 : decide (0 ≤ (l0.length : Int)) = true:=decide_eq_true c2
  clear c2
  by_cases c3 : ((l0.length : Int) : Int).toNat ≤ 3198579280802
  ·rw [if_pos c3] at H
   have c3b0:=eq_true c3
   have c3b1 : decide (((l0.length : Int) : Int).toNat ≤ 3198579280802) = true:=decide_eq_true c3
   clear c3
   obtain ⟨y163,hy163⟩ : ∃ y_ : List (S35),y_ = (List.replicate ((l0.length : Int) : Int).toNat z35):=⟨_,rfl⟩
   replace H : (laws_toDefS.l0 k l0 y163 0) = some r:=by first | (rw [hy163];with_reducible exact H) | (have H2_:=(Option.bind_some _ _).symm.trans H;rw [hy163];with_reducible exact H2_) | (have H2_:=(Option.bind_some _ _).symm.trans H;with_reducible exact H2_) | with_reducible exact H | (rw [hy163];exact H) | exact H
   have Ny163:=aM_ hy163
   clear hy163
   have H':=aM_ H
   clear H
   go_enter Tryd.func16,Tryd.ntmps16
   go_wp2_with (first | ((with_reducible refine gate_dst (N:=7) rfl ?_);refine Kd.R_make k35 _ 35 rfl (N:=7) rfl 25 _ _ rfl (l0.length : Int) rfl rfl Tryd.underlying25 (.agg #[(.string ⟨#[]⟩),(.slice none 0 0),(.slice none 0 0),(.slice none 0 0)]) 88 info35 rfl (by decide) (by omega) z35 (ok:=fun _=>True) (okp:=fun _=>True) (k35_mkM _ _ _ z35 (Kd.R_nil _ _ _ _ _) (Kd.R_nil _ _ _ _ _) (Kd.R_nil _ _ _ _ _)) (fun _ hk=>hk) trivial (oT_ (by first | (with_reducible assumption) | assumption)) (Nat.le_trans (Nat.mul_le_mul_right _ (oT_ (by first | (with_reducible assumption) | assumption) : (l0.length : Int).toNat ≤ 3198579280802)) (by omega)) (Below.refl _ _) (Nat.le_refl _) ?_;intro v164 w4 ho5 hb hg_ hnew_;clear hg_ hnew_;(first | rw [← Ny163.out] at ho5 | (simp only [Int.reduceToNat] at ho5;rw [← Ny163.out] at ho5));have n0_:=aM_ (Kd.R_lower ho5 (bS_ (by exact bZ_ HB)));have n1_:=aM_ (bT_ (by exact bZ_ HB) hb);clear HB;have HO165:=n0_;have HB:=n1_;clear n0_ n1_ hb ho5))
   (try simp only [Act.put,sI_,sS_,sZ_])
   go_loopg [4] k (fun kq v4 w'=>∃ (x3_1 : List (S35)) (x4_1 : Int),v4 = .int .i64 x4_1 ∧ Aside0 (laws_toDefS.l0 kq l0 x3_1 x4_1 = some r) ∧ Aside0 (kq ≤ k) ∧ Aside0 (Kd.R k35 35 w' w.heap.size (fun _=>True) v164 x3_1) ∧ Aside0 (Below w.heap.size w w'))
   case atStart=>exact ⟨(y163),(0),(by first | rfl | (simp;done) | (simp [*];done)),H', ⟨Nat.le_refl _⟩,⟨by exact rZ_ HO165⟩,⟨by exact bZ_ HB⟩⟩
   case round =>
    clear H'
    clear c2b0 c2b1 c3b0 c3b1
    obtain ⟨x3_1,x4_1,rfl,HA,HK1,HO_3,HB⟩:=hrel
    cases gk with
    | zero=>exact absurd HA.out (by simp [laws_toDefS.l0])
    | succ k1 =>
     have H:=HA.out
     clear HA
     simp only [laws_toDefS.l0] at H
     by_cases c6 : x4_1 < (l0.length : Int)
     ·rw [if_pos c6] at H
      have c6b0 : decide (x4_1 < (l0.length : Int)) = true:=decide_eq_true c6
      clear c6
      by_cases c7 : 0 ≤ x4_1
      ·rw [if_pos c7] at H
       have c7b0 : decide (0 ≤ x4_1) = true:=decide_eq_true c7
       clear c7
       replace H:=oB_ H
       obtain ⟨⟨t167,t168,t171,t174⟩,A80,H⟩:=H
       replace H : (if x4_1 < (x3_1.length : Int) then (laws_toDefS.l0 k1 l0 (x3_1.set (x4_1 : Int).toNat (⟨t167,t168,t171,t174⟩ : S35)) (wrap64 (x4_1 + 1))) else (none)) = some r:=H
       have A8:=aM_ A80
       clear A80
       by_cases c9 : x4_1 < (x3_1.length : Int)
       ·rw [if_pos c9] at H
        have c9b0 : decide (x4_1 < (x3_1.length : Int)) = true:=decide_eq_true c9
        clear c9
        obtain ⟨y177,hy177⟩ : ∃ y_ : List (S35),y_ = (x3_1.set (x4_1 : Int).toNat (⟨t167,t168,t171,t174⟩ : S35)):=⟨_,rfl⟩
        replace H : (laws_toDefS.l0 k1 l0 y177 (wrap64 (x4_1 + 1))) = some r:=by first | (rw [hy177];with_reducible exact H) | (have H2_:=(Option.bind_some _ _).symm.trans H;rw [hy177];with_reducible exact H2_) | (have H2_:=(Option.bind_some _ _).symm.trans H;with_reducible exact H2_) | with_reducible exact H | (rw [hy177];exact H) | exact H
        have Ny177:=aM_ hy177
        clear hy177
        have H':=aM_ H
        clear H
        have p166 : 0 ≤ (x4_1 : Int):=oT_ (by first | (with_reducible assumption) | assumption)
        have q166 : x4_1 < (l0.length : Int):=oT_ (by first | (with_reducible assumption) | assumption)
        obtain ⟨ad166,A166_1,c166_1,A166_2,c166_2,A166_3,c166_3,e166,hx166_0,hx166_1,hx166_2,hx166_3,hl166_1,hi166_1,hl166_2,hi166_2,hl166_3,hi166_3⟩:=at_T46 HR0.out x4_1 p166 q166
        cases e166
        replace hx166_0:=(HB.out.cell (wL_ w _ hx166_0)).trans hx166_0
        replace hx166_1:=(HB.out.cell (wL_ w _ hx166_1)).trans hx166_1
        replace hx166_2:=(HB.out.cell (wL_ w _ hx166_2)).trans hx166_2
        replace hx166_3:=(HB.out.cell (wL_ w _ hx166_3)).trans hx166_3
        have HR166_1:=aM_ hi166_1
        have HC166_1:=aM_ hl166_1
        clear hi166_1 hl166_1
        have HR166_2:=aM_ hi166_2
        have HC166_2:=aM_ hl166_2
        clear hi166_2 hl166_2
        have HR166_3:=aM_ hi166_3
        have HC166_3:=aM_ hl166_3
        clear hi166_3 hl166_3
        replace p166:=eq_true p166
        replace q166:=eq_true q166
        go_wp2_with (first | ((with_reducible refine gate_callee (f:=29) rfl ?_);refine goesL_ (some 20) rfl rfl Tryd.func29 (by kernel_rfl) rfl #[.agg #[.string ((rd_T46 l0 x4_1).f0),.slice A166_1 ((rd_T46 l0 x4_1).f1).length c166_1,.slice A166_2 ((rd_T46 l0 x4_1).f2).length c166_2,.slice A166_3 ((rd_T46 l0 x4_1).f3).length c166_3]] rfl (by (try simp only [mA_,mC_,mN_]);first | done | rfl | (simp only [lD_,lT_];rfl)) ?_;(with_reducible refine (laws_toDef.calls k1 ((rd_T46 l0 x4_1).f0) _ _ ((rd_T46 l0 x4_1).f1) _ _ ((rd_T46 l0 x4_1).f2) _ _ ((rd_T46 l0 x4_1).f3) t167 t168 t171 t174 _ ?side1 ?side2 ?side3 ?side4 ?side5 ?side6 A8.out).mono ?_);(case side1=>exact cZ_ HR166_1 HB);(case side2=>exact HC166_1.out);(case side3=>exact cZ_ HR166_2 HB);(case side4=>exact HC166_2.out);(case side5=>exact cZ_ HR166_3 HB);(case side6=>exact HC166_3.out);rintro e w11 ⟨v169,v172,v175,rfl,ho0,ho1,ho2,hb⟩;refine ⟨_,rfl,?_⟩;have n0_:=aM_ (Kd.R_mono (Kd.R_told (Kd.R_told (Kd.R_told (Kd.R_old (by exact rZ_ HO_3) hb) (Kd.R_base ho0)) (Kd.R_base ho1)) (Kd.S_base ho2)) (fun _ h_=>h_.1));have n1_:=aM_ (Kd.R_lower ho0 (bS_ (by exact bZ_ HB)));have n2_:=aM_ (Kd.R_lower ho1 (bS_ (by exact bZ_ HB)));have n3_:=aM_ (Kd.S_lower ho2 (bS_ (by exact bZ_ HB)));have n4_:=aM_ (bT_ (by exact bZ_ HB) hb);clear HO_3 HB;have HO_3:=n0_;have HO170:=n1_;have HO173:=n2_;have HO176:=n3_;have HB:=n4_;clear n0_ n1_ n2_ n3_ n4_ hb ho0 ho1 ho2;have p10 : 0 ≤ (x4_1 : Int):=oT_ (by first | (with_reducible assumption) | assumption);have q10 : (x4_1 : Int) < ((x3_1.length : Int) : Int):=oT_ (by first | (with_reducible assumption) | assumption);obtain ⟨go10,co10,eo10,gb10,gl10,cl10,HG10⟩:=Kd.R_form HO_3.out (by omega);(first | cases eo10 | (injection eo10 with ea_ en_ ec_;(first | subst ea_ | (injection ea_ with ea_;subst ea_));subst ec_;clear en_));have GB10:=aM_ gb10;have GG10:=aM_ HG10;clear gb10 gl10 HG10;obtain ⟨ce10,hcl10,hM10,hcc10,hfr10⟩:=Kd.R_elem HO_3.out z35 (x4_1 : Int) p10 q10;obtain ⟨ve10_1,ve10_2,ve10_3,rfl,ge10_1,ge10_2,ge10_3⟩:=k35_openM hM10;have hx10_0 : w11.cell? ⟨go10,(x4_1 : Int).toNat * 4,none⟩ = some (.string ((rd_T35 x3_1 x4_1).f0)):=hcc10 0 _ rfl;have hx10_1 : w11.cell? ⟨go10,(x4_1 : Int).toNat * 4 + 1,none⟩ = some (ve10_1):=hcc10 1 _ rfl;have hx10_2 : w11.cell? ⟨go10,(x4_1 : Int).toNat * 4 + 2,none⟩ = some (ve10_2):=hcc10 2 _ rfl;have hx10_3 : w11.cell? ⟨go10,(x4_1 : Int).toNat * 4 + 3,none⟩ = some (ve10_3):=hcc10 3 _ rfl;have hf10_0 : w11.frozen? ⟨go10,(x4_1 : Int).toNat * 4,none⟩ = false:=hfr10 0;have hf10_1 : w11.frozen? ⟨go10,(x4_1 : Int).toNat * 4 + 1,none⟩ = false:=hfr10 1;have hf10_2 : w11.frozen? ⟨go10,(x4_1 : Int).toNat * 4 + 2,none⟩ = false:=hfr10 2;have hf10_3 : w11.frozen? ⟨go10,(x4_1 : Int).toNat * 4 + 3,none⟩ = false:=hfr10 3;clear hM10 hcl10 hcc10 hfr10;replace p10:=eq_true p10;replace q10:=eq_true q10;obtain ⟨Ao12,co12,eo12⟩:=Kd.R_slice HO170.out;subst eo12;obtain ⟨Ao13,co13,eo13⟩:=Kd.R_slice HO173.out;subst eo13;obtain ⟨Ao14,co14,eo14⟩:=Kd.S_slice HO176.out;subst eo14;have n_:=aM_ (Kd.R_mono (ok':=(fun k_=>some k_ ≠ (.slice Ao12 t168.length co12 : Value).ownBlock ∧ some k_ ≠ (.slice Ao13 t171.length co13 : Value).ownBlock ∧ some k_ ≠ (.slice Ao14 t174.length co14 : Value).ownBlock)) HO_3.out (fun k_ hk=>⟨hk.1.1.2,⟨hk.1.2,hk.2⟩⟩));clear HO_3;have HO_3:=n_;clear n_;have HX15:=aM_ (show Kd.R k35 35 w11 w.heap.size (fun _=>True) (.slice (some ⟨go10,0,none⟩) x3_1.length co10) x3_1 from (by (with_reducible repeat (first | apply rA_ | apply rN_ | apply rD_));exact Kd.R_mono HO_3.out (fun _ hk=>trivial)));obtain ⟨ce15,hcl15,hM15,hcc15,hfr15⟩:=Kd.R_elem HX15.out z35 (x4_1 : Int) (oT_ (by first | (with_reducible assumption) | assumption)) (by have h_ : (x4_1 : Int) < ((x3_1.length : Int) : Int):=oT_ (by first | (with_reducible assumption) | assumption);first | exact h_ | (have e_:=(Kd.R_reads' HO_3.out).1;omega) | simpa using h_);obtain ⟨ve15_1,ve15_2,ve15_3,rfl,ge15_1,ge15_2,ge15_3⟩:=k35_openM hM15;have HP15:=Kd.R_seg HX15.out (x4_1 : Int) (oT_ (by first | (with_reducible assumption) | assumption)) (by have h_ : (x4_1 : Int) < ((x3_1.length : Int) : Int):=oT_ (by first | (with_reducible assumption) | assumption);first | exact h_ | (have e_:=(Kd.R_reads' HO_3.out).1;omega) | simpa using h_) (seg:=[.string t167,.slice Ao12 t168.length co12,.slice Ao13 t171.length co13,.slice Ao14 t174.length co14]) (j:=0) hcl15 hcc15 (show 4 ≤ 4 from by decide) (x':=(⟨t167,t168,t171,t174⟩ : S35)) (k35_mkM _ _ _ (⟨t167,t168,t171,t174⟩ : S35) (Kd.R_mono (Kd.R_apart' (HO170.out) (Kd.R_typed HO_3.out) (by decide)) (fun k_ hk=>⟨trivial,fun e_=>(hk.2) (by rw [e_];rfl)⟩)) (Kd.R_mono (Kd.R_apart' (HO173.out) (Kd.R_typed HO_3.out) (by decide)) (fun k_ hk=>⟨trivial,fun e_=>(hk.2) (by rw [e_];rfl)⟩)) (Kd.R_mono (Kd.R_apart' ((Kd.S_R HO176.out)) (Kd.R_typed HO_3.out) (by decide)) (fun k_ hk=>⟨trivial,fun e_=>(hk.2) (by rw [e_];rfl)⟩))) (fun _ hk=>hk);have hx15_0:=hcc15 0 _ rfl;(try simp only [show (k35).sz = 4 from rfl,Nat.mul_one,Nat.add_zero] at hx15_0);have hf15_0:=hfr15 0;(try simp only [show (k35).sz = 4 from rfl,Nat.mul_one,Nat.add_zero] at hf15_0);have hx15_1:=hcc15 1 _ rfl;(try simp only [show (k35).sz = 4 from rfl,Nat.mul_one,Nat.add_zero] at hx15_1);have hf15_1:=hfr15 1;(try simp only [show (k35).sz = 4 from rfl,Nat.mul_one,Nat.add_zero] at hf15_1);have hx15_2:=hcc15 2 _ rfl;(try simp only [show (k35).sz = 4 from rfl,Nat.mul_one,Nat.add_zero] at hx15_2);have hf15_2:=hfr15 2;(try simp only [show (k35).sz = 4 from rfl,Nat.mul_one,Nat.add_zero] at hf15_2);have hx15_3:=hcc15 3 _ rfl;(try simp only [show (k35).sz = 4 from rfl,Nat.mul_one,Nat.add_zero] at hx15_3);have hf15_3:=hfr15 3;(try simp only [show (k35).sz = 4 from rfl,Nat.mul_one,Nat.add_zero] at hf15_3);clear hM15 hcl15 hcc15 hfr15) | ((with_reducible refine gate_store (t:=35) (p:=21) rfl ?_);refine store_event (t:=35) (p:=21) (v:=?vo_w16) (w1:=((((w11.setCell ⟨go10,(x4_1 : Int).toNat * 4,none⟩ (.string t167)).setCell ⟨go10,(x4_1 : Int).toNat * 4 + 1,none⟩ (.slice Ao12 t168.length co12)).setCell ⟨go10,(x4_1 : Int).toNat * 4 + 2,none⟩ (.slice Ao13 t171.length co13)).setCell ⟨go10,(x4_1 : Int).toNat * 4 + 3,none⟩ (.slice Ao14 t174.length co14))) ?hg ?ho ?hn ?hr ?_;(case ho=>rfl);(case hg=>rfl);(case hn=>rfl);(case hr=>first | (go_simp;done) | (go_simp;rfl));intro w16 hw;have hg : w11.grownBy w16 (some go10):=(by rw [hw];exact HP15.2);have hp_ : Kd.R k35 35 w16 w.heap.size (fun _=>True) (.slice (some ⟨go10,0,none⟩) x3_1.length co10) y177:=(by rw [hw,Ny177.out];exact HP15.1);clear HP15;have n0_:=aM_ (hp_);have n1_:=aM_ ((by rw [hw];exact bE_ (bE_ (bE_ (bE_ (HB.out) GB10.out) GB10.out) GB10.out) GB10.out : Below w.heap.size w w16));clear HO_3 HB HO170 HO173 HO176;have HO_3:=n0_;have HB:=n1_;clear n0_ n1_ hg hw hp_))
        go_roundg k1
        case measure=>have:=HK1.out;omega
        case rel=>exact ⟨(y177),(wrap64 (x4_1 + 1)),(by first | rfl | (simp;done) | (simp [*];done)),H', ⟨by have:=HK1.out;omega⟩,⟨by exact rZ_ HO_3⟩,⟨by exact bZ_ HB⟩⟩
       ·rw [if_neg c9] at H
        exact absurd H (by simp)
      ·rw [if_neg c7] at H
       exact absurd H (by simp)
     ·rw [if_neg c6] at H
      have c6b0 : decide (x4_1 < (l0.length : Int)) = false:=decide_eq_false c6
      clear c6
      obtain rfl:=Option.some.inj H
      go_wp2
      go_ret
      exact ⟨_,by first | rfl | (simp [errW_none,errW_some] <;> rfl) | (simp [*, errW_none,errW_some] <;> rfl),by exact rZ_ HO_3,by exact bZ_ HB⟩
  ·rw [if_neg c3] at H
   exact absurd H (by simp)
 ·rw [if_neg c2] at H
  exact absurd H (by simp)
def laws_eqCol.f (a0_0 : ByteArray) (a0_1 : Int) (a0_2 : Bool) (a1_0 : ByteArray) (a1_1 : Int) (a1_2 : Bool) : Option (Bool):=if a0_0.toList = a1_0.toList then (if a0_1 = a1_1 then (if (a0_2 != a1_2) = true then (some false) else (some true)) else (some false)) else (some false)
set_option maxHeartbeats 8000000 in
set_option maxRecDepth 100000 in
theorem laws_eqCol.calls (a0_0 : ByteArray) (a0_1 : Int) (a0_2 : Bool) (a1_0 : ByteArray) (a1_1 : Int) (a1_2 : Bool) (r : Bool) (w : World) (h : laws_eqCol.f a0_0 a0_1 a0_2 a1_0 a1_1 a1_2 = some r) :
  Calls Tryd.prog 117 #[.agg #[.string a0_0,.int .i64 a0_1,.bool a0_2],.agg #[.string a1_0,.int .i64 a1_1,.bool a1_2]] w fun e w'=>e = .returned (.bool r) ∧ Below w.heap.size w w':=by
 have hu82:=Tryd.underlying82
 have HB:=aM_ (Below.refl w.heap.size w)
 have H : (if a0_0.toList = a1_0.toList then (if a0_1 = a1_1 then (if (a0_2 != a1_2) = true then (some false) else (some true)) else (some false)) else (some false)) = some r:=h
 clear h
 by_cases c3 : a0_0.toList = a1_0.toList
 ·rw [if_pos c3] at H
  have c3b0 : (a0_0.toList == a1_0.toList) = true:=beq_iff_eq.mpr c3
  have c3b1 : (a0_0.toList != a1_0.toList) = false:=bne_eq_false_iff_eq.mpr c3
  clear c3
  by_cases c4 : a0_1 = a1_1
  ·rw [if_pos c4] at H
   have c4b0 : (a0_1 == a1_1) = true:=beq_iff_eq.mpr c4
   have c4b1 : (a0_1 != a1_1) = false:=bne_eq_false_iff_eq.mpr c4
   clear c4
   by_cases c5 : (a0_2 != a1_2) = true
   ·rw [if_pos c5] at H
    have c5b0 : (a0_2 != a1_2) = true:=c5
    (try (have c5b1 : decide (a0_2 = a1_2) = false:=by simpa using c5))
    (try (have c5b2 : (a0_2 == a1_2) = false:=by simpa using c5))
    (try (have c5b3 : ¬ (a0_2 = a1_2):=by simpa using c5))
    clear c5
    obtain rfl:=Option.some.inj H
    go_enter Tryd.func117,Tryd.ntmps117
    go_wp2_with (first | ((with_reducible refine gate_dst (N:=2) rfl ?_);refine box_event ?hg (N:=2) ?hd (cs:=#[.string a0_0,.int .i64 a0_1,.bool a0_2]) (t:=82) ?hr ?_;(case hd=>rfl);(case hg=>rfl);(case hr=>first | (go_simp;done) | (go_simp;rfl));intro gb178 hg w6 hbox hb;have n0_:=aM_ (bT_ (by exact bZ_ HB) hb);have n1_:=aM_ (hbox);have n2_:=aM_ ((by rw [hg];exact (bS_ (by exact bZ_ HB)) : w.heap.size ≤ gb178));have n3_:=aM_ ((by rw [hg];exact (bS_ (by exact bZ_ HB)) : w.heap.size ≤ gb178));clear HB;have HB:=n0_;have BK178:=n1_;have GW178:=n2_;have GE178:=n3_;clear n0_ n1_ n2_ n3_ hb hbox hg) | ((with_reducible refine gate_dst (N:=3) rfl ?_);refine box_event ?hg (N:=3) ?hd (cs:=#[.string a1_0,.int .i64 a1_1,.bool a1_2]) (t:=82) ?hr ?_;(case hd=>rfl);(case hg=>rfl);(case hr=>first | (go_simp;done) | (go_simp;rfl));intro gb179 hg w7 hbox hb;have n0_:=aM_ (blk_below (g:=gb178) (o:=.cells #[.string a0_0,.int .i64 a0_1,.bool a0_2] 82 (0,0)) (by exact kZ_ BK178) hb);have n1_:=aM_ (bT_ (by exact bZ_ HB) hb);have n2_:=aM_ (hbox);have n3_:=aM_ ((by rw [hg];exact (bS_ (by exact bZ_ HB)) : w.heap.size ≤ gb179));have n4_:=aM_ ((by rw [hg];exact (bS_ (by exact bZ_ HB)) : w.heap.size ≤ gb179));have n5_:=aM_ ((by rw [hg];exact nN_ (blk_lt (g:=gb178) (o:=.cells #[.string a0_0,.int .i64 a0_1,.bool a0_2] 82 (0,0)) (by exact kZ_ BK178)) : gb178 ≠ gb179));have n6_:=aM_ ((by rw [hg];exact Nat.ne_of_gt (blk_lt (g:=gb178) (o:=.cells #[.string a0_0,.int .i64 a0_1,.bool a0_2] 82 (0,0)) (by exact kZ_ BK178)) : gb179 ≠ gb178));clear BK178 HB;have BK178:=n0_;have HB:=n1_;have BK179:=n2_;have GW179:=n3_;have GE179:=n4_;have NB178_179:=n5_;have NB179_178:=n6_;clear n0_ n1_ n2_ n3_ n4_ n5_ n6_ hb hbox hg;have hnb8:=NB178_179.out;have hnc8:=NB179_178.out;have hcz9_0 : w7.cell? ⟨gb178,0,none⟩ = some (.string a0_0):=(kC_ BK178.out 0).trans rfl;have hcz9_1 : w7.cell? ⟨gb178,1,none⟩ = some (.int .i64 a0_1):=(kC_ BK178.out 1).trans rfl;have hcz9_2 : w7.cell? ⟨gb178,2,none⟩ = some (.bool a0_2):=(kC_ BK178.out 2).trans rfl;have hfz9_0:=kF_ BK178.out 0;have hfz9_1:=kF_ BK178.out 1;have hfz9_2:=kF_ BK178.out 2;have hcz10_0 : w7.cell? ⟨gb179,0,none⟩ = some (.string a1_0):=(kC_ BK179.out 0).trans rfl;have hcz10_1 : w7.cell? ⟨gb179,1,none⟩ = some (.int .i64 a1_1):=(kC_ BK179.out 1).trans rfl;have hcz10_2 : w7.cell? ⟨gb179,2,none⟩ = some (.bool a1_2):=(kC_ BK179.out 2).trans rfl;have hfz10_0:=kF_ BK179.out 0;have hfz10_1:=kF_ BK179.out 1;have hfz10_2:=kF_ BK179.out 2))
    go_ret
    exact ⟨by first | rfl | (simp [errW_none,errW_some] <;> rfl) | (simp [*, errW_none,errW_some] <;> rfl),by exact bZ_ HB⟩
   ·rw [if_neg c5] at H
    have c5b0 : (a0_2 != a1_2) = false:=by simpa using c5
    (try (have c5b1 : decide (a0_2 = a1_2) = true:=by simpa using c5))
    (try (have c5b2 : (a0_2 == a1_2) = true:=by simpa using c5))
    clear c5
    obtain rfl:=Option.some.inj H
    go_enter Tryd.func117,Tryd.ntmps117
    go_wp2_with (first | ((with_reducible refine gate_dst (N:=2) rfl ?_);refine box_event ?hg (N:=2) ?hd (cs:=#[.string a0_0,.int .i64 a0_1,.bool a0_2]) (t:=82) ?hr ?_;(case hd=>rfl);(case hg=>rfl);(case hr=>first | (go_simp;done) | (go_simp;rfl));intro gb178 hg w11 hbox hb;have n0_:=aM_ (bT_ (by exact bZ_ HB) hb);have n1_:=aM_ (hbox);have n2_:=aM_ ((by rw [hg];exact (bS_ (by exact bZ_ HB)) : w.heap.size ≤ gb178));have n3_:=aM_ ((by rw [hg];exact (bS_ (by exact bZ_ HB)) : w.heap.size ≤ gb178));clear HB;have HB:=n0_;have BK178:=n1_;have GW178:=n2_;have GE178:=n3_;clear n0_ n1_ n2_ n3_ hb hbox hg) | ((with_reducible refine gate_dst (N:=3) rfl ?_);refine box_event ?hg (N:=3) ?hd (cs:=#[.string a1_0,.int .i64 a1_1,.bool a1_2]) (t:=82) ?hr ?_;(case hd=>rfl);(case hg=>rfl);(case hr=>first | (go_simp;done) | (go_simp;rfl));intro gb179 hg w12 hbox hb;have n0_:=aM_ (blk_below (g:=gb178) (o:=.cells #[.string a0_0,.int .i64 a0_1,.bool a0_2] 82 (0,0)) (by exact kZ_ BK178) hb);have n1_:=aM_ (bT_ (by exact bZ_ HB) hb);have n2_:=aM_ (hbox);have n3_:=aM_ ((by rw [hg];exact (bS_ (by exact bZ_ HB)) : w.heap.size ≤ gb179));have n4_:=aM_ ((by rw [hg];exact (bS_ (by exact bZ_ HB)) : w.heap.size ≤ gb179));have n5_:=aM_ ((by rw [hg];exact nN_ (blk_lt (g:=gb178) (o:=.cells #[.string a0_0,.int .i64 a0_1,.bool a0_2] 82 (0,0)) (by exact kZ_ BK178)) : gb178 ≠ gb179));have n6_:=aM_ ((by rw [hg];exact Nat.ne_of_gt (blk_lt (g:=gb178) (o:=.cells #[.string a0_0,.int .i64 a0_1,.bool a0_2] 82 (0,0)) (by exact kZ_ BK178)) : gb179 ≠ gb178));clear BK178 HB;have BK178:=n0_;have HB:=n1_;have BK179:=n2_;have GW179:=n3_;have GE179:=n4_;have NB178_179:=n5_;have NB179_178:=n6_;clear n0_ n1_ n2_ n3_ n4_ n5_ n6_ hb hbox hg;have hnb13:=NB178_179.out;have hnc13:=NB179_178.out;have hcz14_0 : w12.cell? ⟨gb178,0,none⟩ = some (.string a0_0):=(kC_ BK178.out 0).trans rfl;have hcz14_1 : w12.cell? ⟨gb178,1,none⟩ = some (.int .i64 a0_1):=(kC_ BK178.out 1).trans rfl;have hcz14_2 : w12.cell? ⟨gb178,2,none⟩ = some (.bool a0_2):=(kC_ BK178.out 2).trans rfl;have hfz14_0:=kF_ BK178.out 0;have hfz14_1:=kF_ BK178.out 1;have hfz14_2:=kF_ BK178.out 2;have hcz15_0 : w12.cell? ⟨gb179,0,none⟩ = some (.string a1_0):=(kC_ BK179.out 0).trans rfl;have hcz15_1 : w12.cell? ⟨gb179,1,none⟩ = some (.int .i64 a1_1):=(kC_ BK179.out 1).trans rfl;have hcz15_2 : w12.cell? ⟨gb179,2,none⟩ = some (.bool a1_2):=(kC_ BK179.out 2).trans rfl;have hfz15_0:=kF_ BK179.out 0;have hfz15_1:=kF_ BK179.out 1;have hfz15_2:=kF_ BK179.out 2))
    go_ret
    exact ⟨by first | rfl | (simp [errW_none,errW_some] <;> rfl) | (simp [*, errW_none,errW_some] <;> rfl),by exact bZ_ HB⟩
  ·rw [if_neg c4] at H
   have c4b0 : (a0_1 == a1_1) = false:=beq_eq_false_iff_ne.mpr c4
   have c4b1 : (a0_1 != a1_1) = true:=bne_iff_ne.mpr c4
   obtain rfl:=Option.some.inj H
   go_enter Tryd.func117,Tryd.ntmps117
   go_wp2_with (first | ((with_reducible refine gate_dst (N:=2) rfl ?_);refine box_event ?hg (N:=2) ?hd (cs:=#[.string a0_0,.int .i64 a0_1,.bool a0_2]) (t:=82) ?hr ?_;(case hd=>rfl);(case hg=>rfl);(case hr=>first | (go_simp;done) | (go_simp;rfl));intro gb178 hg w16 hbox hb;have n0_:=aM_ (bT_ (by exact bZ_ HB) hb);have n1_:=aM_ (hbox);have n2_:=aM_ ((by rw [hg];exact (bS_ (by exact bZ_ HB)) : w.heap.size ≤ gb178));have n3_:=aM_ ((by rw [hg];exact (bS_ (by exact bZ_ HB)) : w.heap.size ≤ gb178));clear HB;have HB:=n0_;have BK178:=n1_;have GW178:=n2_;have GE178:=n3_;clear n0_ n1_ n2_ n3_ hb hbox hg) | ((with_reducible refine gate_dst (N:=3) rfl ?_);refine box_event ?hg (N:=3) ?hd (cs:=#[.string a1_0,.int .i64 a1_1,.bool a1_2]) (t:=82) ?hr ?_;(case hd=>rfl);(case hg=>rfl);(case hr=>first | (go_simp;done) | (go_simp;rfl));intro gb179 hg w17 hbox hb;have n0_:=aM_ (blk_below (g:=gb178) (o:=.cells #[.string a0_0,.int .i64 a0_1,.bool a0_2] 82 (0,0)) (by exact kZ_ BK178) hb);have n1_:=aM_ (bT_ (by exact bZ_ HB) hb);have n2_:=aM_ (hbox);have n3_:=aM_ ((by rw [hg];exact (bS_ (by exact bZ_ HB)) : w.heap.size ≤ gb179));have n4_:=aM_ ((by rw [hg];exact (bS_ (by exact bZ_ HB)) : w.heap.size ≤ gb179));have n5_:=aM_ ((by rw [hg];exact nN_ (blk_lt (g:=gb178) (o:=.cells #[.string a0_0,.int .i64 a0_1,.bool a0_2] 82 (0,0)) (by exact kZ_ BK178)) : gb178 ≠ gb179));have n6_:=aM_ ((by rw [hg];exact Nat.ne_of_gt (blk_lt (g:=gb178) (o:=.cells #[.string a0_0,.int .i64 a0_1,.bool a0_2] 82 (0,0)) (by exact kZ_ BK178)) : gb179 ≠ gb178));clear BK178 HB;have BK178:=n0_;have HB:=n1_;have BK179:=n2_;have GW179:=n3_;have GE179:=n4_;have NB178_179:=n5_;have NB179_178:=n6_;clear n0_ n1_ n2_ n3_ n4_ n5_ n6_ hb hbox hg;have hnb18:=NB178_179.out;have hnc18:=NB179_178.out;have hcz19_0 : w17.cell? ⟨gb178,0,none⟩ = some (.string a0_0):=(kC_ BK178.out 0).trans rfl;have hcz19_1 : w17.cell? ⟨gb178,1,none⟩ = some (.int .i64 a0_1):=(kC_ BK178.out 1).trans rfl;have hcz19_2 : w17.cell? ⟨gb178,2,none⟩ = some (.bool a0_2):=(kC_ BK178.out 2).trans rfl;have hfz19_0:=kF_ BK178.out 0;have hfz19_1:=kF_ BK178.out 1;have hfz19_2:=kF_ BK178.out 2;have hcz20_0 : w17.cell? ⟨gb179,0,none⟩ = some (.string a1_0):=(kC_ BK179.out 0).trans rfl;have hcz20_1 : w17.cell? ⟨gb179,1,none⟩ = some (.int .i64 a1_1):=(kC_ BK179.out 1).trans rfl;have hcz20_2 : w17.cell? ⟨gb179,2,none⟩ = some (.bool a1_2):=(kC_ BK179.out 2).trans rfl;have hfz20_0:=kF_ BK179.out 0;have hfz20_1:=kF_ BK179.out 1;have hfz20_2:=kF_ BK179.out 2))
   go_ret
   exact ⟨by first | rfl | (simp [errW_none,errW_some] <;> rfl) | (simp [*, errW_none,errW_some] <;> rfl),by exact bZ_ HB⟩
 ·rw [if_neg c3] at H
  have c3b0 : (a0_0.toList == a1_0.toList) = false:=beq_eq_false_iff_ne.mpr c3
  have c3b1 : (a0_0.toList != a1_0.toList) = true:=bne_iff_ne.mpr c3
  obtain rfl:=Option.some.inj H
  go_enter Tryd.func117,Tryd.ntmps117
  go_wp2_with (first | ((with_reducible refine gate_dst (N:=2) rfl ?_);refine box_event ?hg (N:=2) ?hd (cs:=#[.string a0_0,.int .i64 a0_1,.bool a0_2]) (t:=82) ?hr ?_;(case hd=>rfl);(case hg=>rfl);(case hr=>first | (go_simp;done) | (go_simp;rfl));intro gb178 hg w21 hbox hb;have n0_:=aM_ (bT_ (by exact bZ_ HB) hb);have n1_:=aM_ (hbox);have n2_:=aM_ ((by rw [hg];exact (bS_ (by exact bZ_ HB)) : w.heap.size ≤ gb178));have n3_:=aM_ ((by rw [hg];exact (bS_ (by exact bZ_ HB)) : w.heap.size ≤ gb178));clear HB;have HB:=n0_;have BK178:=n1_;have GW178:=n2_;have GE178:=n3_;clear n0_ n1_ n2_ n3_ hb hbox hg) | ((with_reducible refine gate_dst (N:=3) rfl ?_);refine box_event ?hg (N:=3) ?hd (cs:=#[.string a1_0,.int .i64 a1_1,.bool a1_2]) (t:=82) ?hr ?_;(case hd=>rfl);(case hg=>rfl);(case hr=>first | (go_simp;done) | (go_simp;rfl));intro gb179 hg w22 hbox hb;have n0_:=aM_ (blk_below (g:=gb178) (o:=.cells #[.string a0_0,.int .i64 a0_1,.bool a0_2] 82 (0,0)) (by exact kZ_ BK178) hb);have n1_:=aM_ (bT_ (by exact bZ_ HB) hb);have n2_:=aM_ (hbox);have n3_:=aM_ ((by rw [hg];exact (bS_ (by exact bZ_ HB)) : w.heap.size ≤ gb179));have n4_:=aM_ ((by rw [hg];exact (bS_ (by exact bZ_ HB)) : w.heap.size ≤ gb179));have n5_:=aM_ ((by rw [hg];exact nN_ (blk_lt (g:=gb178) (o:=.cells #[.string a0_0,.int .i64 a0_1,.bool a0_2] 82 (0,0)) (by exact kZ_ BK178)) : gb178 ≠ gb179));have n6_:=aM_ ((by rw [hg];exact Nat.ne_of_gt (blk_lt (g:=gb178) (o:=.cells #[.string a0_0,.int .i64 a0_1,.bool a0_2] 82 (0,0)) (by exact kZ_ BK178)) : gb179 ≠ gb178));clear BK178 HB;have BK178:=n0_;have HB:=n1_;have BK179:=n2_;have GW179:=n3_;have GE179:=n4_;have NB178_179:=n5_;have NB179_178:=n6_;clear n0_ n1_ n2_ n3_ n4_ n5_ n6_ hb hbox hg;have hnb23:=NB178_179.out;have hnc23:=NB179_178.out;have hcz24_0 : w22.cell? ⟨gb178,0,none⟩ = some (.string a0_0):=(kC_ BK178.out 0).trans rfl;have hcz24_1 : w22.cell? ⟨gb178,1,none⟩ = some (.int .i64 a0_1):=(kC_ BK178.out 1).trans rfl;have hcz24_2 : w22.cell? ⟨gb178,2,none⟩ = some (.bool a0_2):=(kC_ BK178.out 2).trans rfl;have hfz24_0:=kF_ BK178.out 0;have hfz24_1:=kF_ BK178.out 1;have hfz24_2:=kF_ BK178.out 2;have hcz25_0 : w22.cell? ⟨gb179,0,none⟩ = some (.string a1_0):=(kC_ BK179.out 0).trans rfl;have hcz25_1 : w22.cell? ⟨gb179,1,none⟩ = some (.int .i64 a1_1):=(kC_ BK179.out 1).trans rfl;have hcz25_2 : w22.cell? ⟨gb179,2,none⟩ = some (.bool a1_2):=(kC_ BK179.out 2).trans rfl;have hfz25_0:=kF_ BK179.out 0;have hfz25_1:=kF_ BK179.out 1;have hfz25_2:=kF_ BK179.out 2))
  go_ret
  exact ⟨by first | rfl | (simp [errW_none,errW_some] <;> rfl) | (simp [*, errW_none,errW_some] <;> rfl),by exact bZ_ HB⟩
end Go.Proofs.YtipehkeabnfngaaDoor.PFnExactDefsText
