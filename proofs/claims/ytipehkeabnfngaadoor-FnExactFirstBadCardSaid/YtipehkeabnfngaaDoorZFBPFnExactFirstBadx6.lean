import Derived.Test.YtipehkeabnfngaaDoorZFBPFnExactFirstBadx0
import Derived.Test.YtipehkeabnfngaaDoorZFBPFnExactFirstBadx5
import Derived.Lib.SplitLaws
import Derived.Test.YtipehkeabnfngaaDoorZFBShelf
namespace Go.Proofs.YtipehkeabnfngaaDoor.PFnExactFirstBad
open Go.RowKit Go.Proofs.YtipehkeabnfngaaDoorW.PrintWords Go.Proofs.YtipehkeabnfngaaDoorW.PrintLast Go.Proofs.YtipehkeabnfngaaDoorW.PrintMore Go.Proofs.YtipehkeabnfngaaDoor.Xtra
attribute [local go_sem] max2_int min2_int max_two min_two max_three min_three max_four min_four str_leq str_gtr str_geq setCell_drewN cell_set2 cell_set3   -- for this text's walks alone
set_option linter.unusedVariables false
set_option linter.unusedSimpArgs false
def laws_toColS.l0 : Nat → List (S131) → List (S82) → Int → Option ((List (S82)))
 | 0,_,_,_=>none
 | k + 1,x0,x3,x4=>if x4 < (x0.length : Int) then (if 0 ≤ x4 then ((laws_toCol.f ((rd_T131 x0 x4).f0) ((rd_T131 x0 x4).f1) ((rd_T131 x0 x4).f2)).bind fun bt170=>(if x4 < (x3.length : Int) then (laws_toColS.l0 k x0 (x3.set (x4 : Int).toNat (⟨bt170.1,bt170.2.1,bt170.2.2⟩ : S82)) (wrap64 (x4 + 1))) else (none))) else (none)) else (some x3)
def laws_toColS.f (k : Nat) (l0 : List (S131)) : Option ((List (S82))):=if 0 ≤ (l0.length : Int) then (if ((l0.length : Int) : Int).toNat ≤ 8796093022208 then (laws_toColS.l0 k l0 (List.replicate ((l0.length : Int) : Int).toNat z82) 0) else (none)) else (none)
theorem laws_toColS.mono_l : ∀ k,(∀ y0 y1 y2,LeO (laws_toColS.l0 k y0 y1 y2) (laws_toColS.l0 (k + 1) y0 y1 y2))
 | 0=>fun _ _ _ r h=>by simp [laws_toColS.l0] at h
 | k + 1=>by
  have ih0:=laws_toColS.mono_l k
  ·intro y0 y1 y2
   unfold laws_toColS.l0
   repeat' first
   | (with_reducible exact ih0 _ _ _)
   | (with_reducible exact LeO.refl _)
   | (with_reducible exact LeO.none _)
   | (with_reducible refine LeO.ite ?_ ?_)
   | (with_reducible refine LeO.bind ?_ (fun _=>?_))
   | exact ih0 _ _ _
   | exact LeO.none _
   | refine LeO.ite ?_ ?_
   | refine LeO.bind ?_ (fun _=>?_)
theorem laws_toColS.mono : ∀ a0 k,LeO (laws_toColS.f k a0) (laws_toColS.f (k + 1) a0):=by
 intro a0 k
 have ih0:=laws_toColS.mono_l k
 unfold laws_toColS.f
 repeat' first
   | (with_reducible exact ih0 _ _ _)
   | (with_reducible exact LeO.refl _)
   | (with_reducible exact LeO.none _)
   | (with_reducible refine LeO.ite ?_ ?_)
   | (with_reducible refine LeO.bind ?_ (fun _=>?_))
   | exact ih0 _ _ _
   | exact LeO.none _
   | refine LeO.ite ?_ ?_
   | refine LeO.bind ?_ (fun _=>?_)
set_option maxHeartbeats 8000000 in
set_option maxRecDepth 100000 in
theorem laws_toColS.calls (k : Nat) (A0 : Option Addr) (c0 : Nat) (l0 : List (S131)) (r : List (S82)) (w : World) (hr0 : Kd.C k131 w A0 l0.length l0) (hc0 : l0.length ≤ c0) (h : laws_toColS.f k l0 = some r) :
  Calls Tryd.prog 73 #[.slice A0 l0.length c0] w fun e w'=>∃ v0_ : Value,e = .returned (v0_) ∧ Kd.R k82 82 w' w.heap.size (fun _=>True) v0_ r ∧ Below w.heap.size w w':=by
 have hu131:=Tryd.underlying131
 have hu82:=Tryd.underlying82
 have HR0:=aM_ hr0
 have HC0:=aM_ hc0
 clear hr0 hc0
 have HB:=aM_ (Below.refl w.heap.size w)
 have H : (if 0 ≤ (l0.length : Int) then (if ((l0.length : Int) : Int).toNat ≤ 8796093022208 then (laws_toColS.l0 k l0 (List.replicate ((l0.length : Int) : Int).toNat z82) 0) else (none)) else (none)) = some r:=h
 clear h
 by_cases c2 : 0 ≤ (l0.length : Int)
 ·rw [if_pos c2] at H
  have c2b0:=eq_true c2
  have c2b1 : decide (0 ≤ (l0.length : Int)) = true:=decide_eq_true c2
  clear c2
  by_cases c3 : ((l0.length : Int) : Int).toNat ≤ 8796093022208
  ·rw [if_pos c3] at H
   have c3b0:=eq_true c3
   have c3b1 : decide (((l0.length : Int) : Int).toNat ≤ 8796093022208) = true:=decide_eq_true c3
   clear c3
   obtain ⟨y166,hy166⟩ : ∃ y_ : List (S82),y_ = (List.replicate ((l0.length : Int) : Int).toNat z82):=⟨_,rfl⟩
   replace H : (laws_toColS.l0 k l0 y166 0) = some r:=by first | (rw [hy166];with_reducible exact H) | (have H2_:=(Option.bind_some _ _).symm.trans H;rw [hy166];with_reducible exact H2_) | (have H2_:=(Option.bind_some _ _).symm.trans H;with_reducible exact H2_) | with_reducible exact H | (rw [hy166];exact H) | exact H
   have Ny166:=aM_ hy166
   clear hy166
   have H':=aM_ H
   clear H
   go_enter Tryd.func73,Tryd.ntmps73
   go_wp2_with (first | ((with_reducible refine gate_dst (N:=7) rfl ?_);refine Kd.R_make k82 _ 82 rfl (N:=7) rfl 31 _ _ rfl (l0.length : Int) rfl rfl Tryd.underlying31 (.agg #[(.string ⟨#[]⟩),(.int .i64 0),(.bool false)]) 32 info82 rfl (by decide) (by omega) z82 (ok:=fun _=>True) (okp:=fun _=>True) (k82_mkM _ _ _ z82 ) (fun _ hk=>hk) trivial (oT_ (by first | (with_reducible assumption) | assumption)) (Nat.le_trans (Nat.mul_le_mul_right _ (oT_ (by first | (with_reducible assumption) | assumption) : (l0.length : Int).toNat ≤ 8796093022208)) (by omega)) (Below.refl _ _) (Nat.le_refl _) ?_;intro v167 w4 ho5 hb hg_ hnew_;clear hg_ hnew_;(first | rw [← Ny166.out] at ho5 | (simp only [Int.reduceToNat] at ho5;rw [← Ny166.out] at ho5));have n0_:=aM_ (Kd.R_lower ho5 (bS_ (by exact bZ_ HB)));have n1_:=aM_ (bT_ (by exact bZ_ HB) hb);clear HB;have HO168:=n0_;have HB:=n1_;clear n0_ n1_;clear hb ho5))
   (try simp only [Act.put,sI_,sS_,sZ_])
   go_loopg [4] k (fun kq v4 w'=>∃ (x3_1 : List (S82)) (x4_1 : Int),v4 = .int .i64 x4_1 ∧ Aside0 (laws_toColS.l0 kq l0 x3_1 x4_1 = some r) ∧ Aside0 (kq ≤ k) ∧ Aside0 (Kd.R k82 82 w' w.heap.size (fun _=>True) v167 x3_1) ∧ Aside0 (Below w.heap.size w w'))
   case atStart=>exact ⟨(y166),(0),(by first | rfl | (simp;done) | (simp [*];done)),H', ⟨Nat.le_refl _⟩,⟨by exact rZ_ HO168⟩,⟨by exact bZ_ HB⟩⟩
   case round =>
    clear H'
    try clear c2
    try clear c2b0
    try clear c2b1
    try clear p2
    try clear c3
    try clear c3b0
    try clear c3b1
    obtain ⟨x3_1,x4_1,rfl,HA,HK1,HO_3,HB⟩:=hrel
    cases gk with
    | zero=>exact absurd HA.out (by simp [laws_toColS.l0])
    | succ k1 =>
     have H:=HA.out
     clear HA
     simp only [laws_toColS.l0] at H
     by_cases c6 : x4_1 < (l0.length : Int)
     ·rw [if_pos c6] at H
      have c6b0 : decide (x4_1 < (l0.length : Int)) = true:=decide_eq_true c6
      clear c6
      by_cases c7 : 0 ≤ x4_1
      ·rw [if_pos c7] at H
       have c7b0 : decide (0 ≤ x4_1) = true:=decide_eq_true c7
       clear c7
       replace H:=oB_ H
       obtain ⟨⟨t170,t171,t172⟩,A80,H⟩:=H
       replace H : (if x4_1 < (x3_1.length : Int) then (laws_toColS.l0 k1 l0 (x3_1.set (x4_1 : Int).toNat (⟨t170,t171,t172⟩ : S82)) (wrap64 (x4_1 + 1))) else (none)) = some r:=H
       have A8:=aM_ A80
       clear A80
       by_cases c9 : x4_1 < (x3_1.length : Int)
       ·rw [if_pos c9] at H
        have c9b0 : decide (x4_1 < (x3_1.length : Int)) = true:=decide_eq_true c9
        clear c9
        obtain ⟨y173,hy173⟩ : ∃ y_ : List (S82),y_ = (x3_1.set (x4_1 : Int).toNat (⟨t170,t171,t172⟩ : S82)):=⟨_,rfl⟩
        replace H : (laws_toColS.l0 k1 l0 y173 (wrap64 (x4_1 + 1))) = some r:=by first | (rw [hy173];with_reducible exact H) | (have H2_:=(Option.bind_some _ _).symm.trans H;rw [hy173];with_reducible exact H2_) | (have H2_:=(Option.bind_some _ _).symm.trans H;with_reducible exact H2_) | with_reducible exact H | (rw [hy173];exact H) | exact H
        have Ny173:=aM_ hy173
        clear hy173
        have H':=aM_ H
        clear H
        have p169 : 0 ≤ (x4_1 : Int):=oT_ (by first | (with_reducible assumption) | assumption)
        have q169 : x4_1 < (l0.length : Int):=oT_ (by first | (with_reducible assumption) | assumption)
        obtain ⟨ad169,e169,hx169_0,hx169_1,hx169_2⟩:=at_T131 HR0.out x4_1 p169 q169
        cases e169
        replace hx169_0:=(HB.out.cell (wL_ w _ hx169_0)).trans hx169_0
        replace hx169_1:=(HB.out.cell (wL_ w _ hx169_1)).trans hx169_1
        replace hx169_2:=(HB.out.cell (wL_ w _ hx169_2)).trans hx169_2
        replace p169:=eq_true p169
        replace q169:=eq_true q169
        go_wp2_with (first | ((with_reducible refine gate_callee (f:=114) rfl ?_);refine goesL_ (some 20) rfl rfl Tryd.func114 (by kernel_rfl) rfl #[.agg #[.string ((rd_T131 l0 x4_1).f0),.int .i64 ((rd_T131 l0 x4_1).f1),.bool ((rd_T131 l0 x4_1).f2)]] rfl (by (try simp only [mA_,mC_,mN_]);first | done | rfl | (simp only [lD_,lT_];rfl)) ?_;(with_reducible refine (laws_toCol.calls ((rd_T131 l0 x4_1).f0) ((rd_T131 l0 x4_1).f1) ((rd_T131 l0 x4_1).f2) t170 t171 t172 _ A8.out).mono ?_);rintro e w11 ⟨rfl,hb⟩;refine ⟨_,rfl,?_⟩;have n0_:=aM_ (Kd.R_below (by exact rZ_ HO_3) hb);have n1_:=aM_ (bT_ (by exact bZ_ HB) hb);clear HO_3;clear HB;have HO_3:=n0_;have HB:=n1_;clear n0_ n1_;(try clear hb);(try clear hb2);(try clear hk);(try clear hi);have p10 : 0 ≤ (x4_1 : Int):=oT_ (by first | (with_reducible assumption) | assumption);have q10 : (x4_1 : Int) < ((x3_1.length : Int) : Int):=oT_ (by first | (with_reducible assumption) | assumption);obtain ⟨go10,co10,eo10,gb10,gl10,cl10,HG10⟩:=Kd.R_form HO_3.out (by omega);(first | cases eo10 | (injection eo10 with ea_ en_ ec_;(first | subst ea_ | (injection ea_ with ea_;subst ea_));subst ec_;clear en_));have GB10:=aM_ gb10;have GG10:=aM_ HG10;clear gb10 gl10 HG10;obtain ⟨ce10,hcl10,hM10,hcc10,hfr10⟩:=Kd.R_elem HO_3.out z82 (x4_1 : Int) p10 q10;obtain rfl:=k82_openM hM10;have hx10_0 : w11.cell? ⟨go10,(x4_1 : Int).toNat * 3,none⟩ = some (.string ((rd_T82 x3_1 x4_1).f0)):=hcc10 0 _ rfl;have hx10_1 : w11.cell? ⟨go10,(x4_1 : Int).toNat * 3 + 1,none⟩ = some (.int .i64 ((rd_T82 x3_1 x4_1).f1)):=hcc10 1 _ rfl;have hx10_2 : w11.cell? ⟨go10,(x4_1 : Int).toNat * 3 + 2,none⟩ = some (.bool ((rd_T82 x3_1 x4_1).f2)):=hcc10 2 _ rfl;have hf10_0 : w11.frozen? ⟨go10,(x4_1 : Int).toNat * 3,none⟩ = false:=hfr10 0;have hf10_1 : w11.frozen? ⟨go10,(x4_1 : Int).toNat * 3 + 1,none⟩ = false:=hfr10 1;have hf10_2 : w11.frozen? ⟨go10,(x4_1 : Int).toNat * 3 + 2,none⟩ = false:=hfr10 2;(try clear hM10);clear hcl10 hcc10 hfr10;replace p10:=eq_true p10;replace q10:=eq_true q10;have HX12:=aM_ (show Kd.R k82 82 w11 w.heap.size (fun _=>True) (.slice (some ⟨go10,0,none⟩) x3_1.length co10) x3_1 from (by exact rZ_ HO_3));obtain ⟨ce12,hcl12,hM12,hcc12,hfr12⟩:=Kd.R_elem HX12.out z82 (x4_1 : Int) (oT_ (by first | (with_reducible assumption) | assumption)) (by have h_ : (x4_1 : Int) < ((x3_1.length : Int) : Int):=oT_ (by first | (with_reducible assumption) | assumption);first | exact h_ | (have e_:=(Kd.R_reads' HO_3.out).1;omega) | simpa using h_);obtain rfl:=k82_openM hM12;have HP12:=Kd.R_seg HX12.out (x4_1 : Int) (oT_ (by first | (with_reducible assumption) | assumption)) (by have h_ : (x4_1 : Int) < ((x3_1.length : Int) : Int):=oT_ (by first | (with_reducible assumption) | assumption);first | exact h_ | (have e_:=(Kd.R_reads' HO_3.out).1;omega) | simpa using h_) (seg:=[.string t170,.int .i64 t171,.bool t172]) (j:=0) hcl12 hcc12 (show 3 ≤ 3 from by decide) (x':=(⟨t170,t171,t172⟩ : S82)) (k82_mkM _ _ _ (⟨t170,t171,t172⟩ : S82) ) (fun _ hk=>hk);have hx12_0:=hcc12 0 _ rfl;(try simp only [show (k82).sz = 3 from rfl,Nat.mul_one,Nat.add_zero] at hx12_0);have hf12_0:=hfr12 0;(try simp only [show (k82).sz = 3 from rfl,Nat.mul_one,Nat.add_zero] at hf12_0);have hx12_1:=hcc12 1 _ rfl;(try simp only [show (k82).sz = 3 from rfl,Nat.mul_one,Nat.add_zero] at hx12_1);have hf12_1:=hfr12 1;(try simp only [show (k82).sz = 3 from rfl,Nat.mul_one,Nat.add_zero] at hf12_1);have hx12_2:=hcc12 2 _ rfl;(try simp only [show (k82).sz = 3 from rfl,Nat.mul_one,Nat.add_zero] at hx12_2);have hf12_2:=hfr12 2;(try simp only [show (k82).sz = 3 from rfl,Nat.mul_one,Nat.add_zero] at hf12_2);(try clear hM12);clear hcl12 hcc12 hfr12) | ((with_reducible refine gate_store (t:=82) (p:=21) rfl ?_);refine store_event (t:=82) (p:=21) (v:=?vo_w13) (w1:=(((w11.setCell ⟨go10,(x4_1 : Int).toNat * 3,none⟩ (.string t170)).setCell ⟨go10,(x4_1 : Int).toNat * 3 + 1,none⟩ (.int .i64 t171)).setCell ⟨go10,(x4_1 : Int).toNat * 3 + 2,none⟩ (.bool t172))) ?hg ?ho ?hn ?hr ?_;(case ho=>rfl);(case hg=>rfl);(case hn=>rfl);(case hr=>first | (go_simp;done) | (go_simp;rfl));intro w13 hw;have hg : w11.grownBy w13 (some go10):=(by rw [hw];exact HP12.2);have hp_ : Kd.R k82 82 w13 w.heap.size (fun _=>True) (.slice (some ⟨go10,0,none⟩) x3_1.length co10) y173:=(by rw [hw,Ny173.out];exact HP12.1);clear HP12;have n0_:=aM_ (hp_);have n1_:=aM_ ((by rw [hw];exact bE_ (bE_ (bE_ (HB.out) GB10.out) GB10.out) GB10.out : Below w.heap.size w w13));clear HO_3;clear HB;have HO_3:=n0_;have HB:=n1_;clear n0_ n1_;clear hg hw hp_))
        go_roundg k1
        case measure=>have:=HK1.out;omega
        case rel=>exact ⟨(y173),(wrap64 (x4_1 + 1)),(by first | rfl | (simp;done) | (simp [*];done)),H', ⟨by have:=HK1.out;omega⟩,⟨by exact rZ_ HO_3⟩,⟨by exact bZ_ HB⟩⟩
       ·rw [if_neg c9] at H
        exact absurd H (by simp)
      ·rw [if_neg c7] at H
       exact absurd H (by simp)
     ·rw [if_neg c6] at H
      have c6b0 : decide (x4_1 < (l0.length : Int)) = false:=decide_eq_false c6
      clear c6
      obtain rfl:=Option.some.inj H
      go_wp2
      go_ret
      exact ⟨_,by first | rfl | (simp [errW_none,errW_some] <;> rfl) | (simp [*, errW_none,errW_some] <;> rfl),by exact rZ_ HO_3,by exact bZ_ HB⟩
  ·rw [if_neg c3] at H
   exact absurd H (by simp)
 ·rw [if_neg c2] at H
  exact absurd H (by simp)
def laws_toBy.f (a0_0 : Int) (a0_1 : Bool) : Option (Int × Bool):=some (a0_0,a0_1)
set_option maxHeartbeats 8000000 in
set_option maxRecDepth 100000 in
theorem laws_toBy.calls (a0_0 : Int) (a0_1 : Bool) (r1 : Int) (r2 : Bool) (w : World) (h : laws_toBy.f a0_0 a0_1 = some (r1,r2)) :
  Calls Tryd.prog 115 #[.agg #[.int .i64 a0_0,.bool a0_1]] w fun e w'=>e = .returned (.agg #[.int .i64 r1,.bool r2]) ∧ Below w.heap.size w w':=by
 have hu137:=Tryd.underlying137
 have hu85:=Tryd.underlying85
 have HB:=aM_ (Below.refl w.heap.size w)
 have H : (some (a0_0,a0_1)) = some (r1,r2):=h
 clear h
 simp only [Option.some.injEq,Prod.mk.injEq] at H
 obtain ⟨rfl,rfl⟩:=H
 go_enter Tryd.func115,Tryd.ntmps115
 go_wp2_with (first | ((with_reducible refine gate_dst (N:=1) rfl ?_);refine box_event ?hg (N:=1) ?hd (cs:=#[.int .i64 a0_0,.bool a0_1]) (t:=137) ?hr ?_;(case hd=>rfl);(case hg=>rfl);(case hr=>first | (go_simp;done) | (go_simp;rfl));intro gb174 hg w2 hbox hb;have n0_:=aM_ (bT_ (by exact bZ_ HB) hb);have n1_:=aM_ (hbox);have n2_:=aM_ ((by rw [hg];exact (bS_ (by exact bZ_ HB)) : w.heap.size ≤ gb174));have n3_:=aM_ ((by rw [hg];exact (bS_ (by exact bZ_ HB)) : w.heap.size ≤ gb174));clear HB;have HB:=n0_;have BK174:=n1_;have GW174:=n2_;have GE174:=n3_;clear n0_ n1_ n2_ n3_;clear hb hbox hg) | ((with_reducible refine gate_dst (N:=2) rfl ?_);refine box_event ?hg (N:=2) ?hd (cs:=#[.int .i64 0,.bool false]) (t:=85) ?hr ?_;(case hd=>rfl);(case hg=>rfl);(case hr=>first | (go_simp;done) | (go_simp;rfl));intro gb175 hg w3 hbox hb;have n0_:=aM_ (blk_below (g:=gb174) (o:=.cells #[.int .i64 a0_0,.bool a0_1] 137 (0,0)) (by exact kZ_ BK174) hb);have n1_:=aM_ (bT_ (by exact bZ_ HB) hb);have n2_:=aM_ (hbox);have n3_:=aM_ ((by rw [hg];exact (bS_ (by exact bZ_ HB)) : w.heap.size ≤ gb175));have n4_:=aM_ ((by rw [hg];exact (bS_ (by exact bZ_ HB)) : w.heap.size ≤ gb175));have n5_:=aM_ ((by rw [hg];exact Nat.ne_of_lt (blk_lt (g:=gb174) (o:=.cells #[.int .i64 a0_0,.bool a0_1] 137 (0,0)) (by exact kZ_ BK174)) : gb174 ≠ gb175));have n6_:=aM_ ((by rw [hg];exact Nat.ne_of_gt (blk_lt (g:=gb174) (o:=.cells #[.int .i64 a0_0,.bool a0_1] 137 (0,0)) (by exact kZ_ BK174)) : gb175 ≠ gb174));clear BK174;clear HB;have BK174:=n0_;have HB:=n1_;have BK175:=n2_;have GW175:=n3_;have GE175:=n4_;have NB174_175:=n5_;have NB175_174:=n6_;clear n0_ n1_ n2_ n3_ n4_ n5_ n6_;clear hb hbox hg) | ((with_reducible refine gate_dst (N:=3) rfl ?_);refine box_event ?hg (N:=3) ?hd (cs:=#[.int .i64 0,.bool false]) (t:=85) ?hr ?_;(case hd=>rfl);(case hg=>rfl);(case hr=>first | (go_simp;done) | (go_simp;rfl));intro gb176 hg w4 hbox hb;have n0_:=aM_ (blk_below (g:=gb174) (o:=.cells #[.int .i64 a0_0,.bool a0_1] 137 (0,0)) (by exact kZ_ BK174) hb);have n1_:=aM_ (blk_below (g:=gb175) (o:=.cells #[.int .i64 0,.bool false] 85 (0,0)) (by exact kZ_ BK175) hb);have n2_:=aM_ (bT_ (by exact bZ_ HB) hb);have n3_:=aM_ (hbox);have n4_:=aM_ ((by rw [hg];exact (bS_ (by exact bZ_ HB)) : w.heap.size ≤ gb176));have n5_:=aM_ ((by rw [hg];exact (bS_ (by exact bZ_ HB)) : w.heap.size ≤ gb176));have n6_:=aM_ ((by rw [hg];exact Nat.ne_of_lt (blk_lt (g:=gb174) (o:=.cells #[.int .i64 a0_0,.bool a0_1] 137 (0,0)) (by exact kZ_ BK174)) : gb174 ≠ gb176));have n7_:=aM_ ((by rw [hg];exact Nat.ne_of_gt (blk_lt (g:=gb174) (o:=.cells #[.int .i64 a0_0,.bool a0_1] 137 (0,0)) (by exact kZ_ BK174)) : gb176 ≠ gb174));have n8_:=aM_ ((by rw [hg];exact Nat.ne_of_lt (blk_lt (g:=gb175) (o:=.cells #[.int .i64 0,.bool false] 85 (0,0)) (by exact kZ_ BK175)) : gb175 ≠ gb176));have n9_:=aM_ ((by rw [hg];exact Nat.ne_of_gt (blk_lt (g:=gb175) (o:=.cells #[.int .i64 0,.bool false] 85 (0,0)) (by exact kZ_ BK175)) : gb176 ≠ gb175));clear BK174;clear BK175;clear HB;have BK174:=n0_;have BK175:=n1_;have HB:=n2_;have BK176:=n3_;have GW176:=n4_;have GE176:=n5_;have NB174_176:=n6_;have NB176_174:=n7_;have NB175_176:=n8_;have NB176_175:=n9_;clear n0_ n1_ n2_ n3_ n4_ n5_ n6_ n7_ n8_ n9_;clear hb hbox hg;have hnb5:=NB174_175.out;have hnc5:=NB175_174.out;have hnb6:=NB174_176.out;have hnc6:=NB176_174.out;have hcz7_0 : w4.cell? ⟨gb174,0,none⟩ = some (.int .i64 a0_0):=(kC_ BK174.out 0).trans rfl;have hcz7_1 : w4.cell? ⟨gb174,1,none⟩ = some (.bool a0_1):=(kC_ BK174.out 1).trans rfl;have hfz7_0:=kF_ BK174.out 0;have hfz7_1:=kF_ BK174.out 1;have hnb8:=NB176_175.out;have hnc8:=NB175_176.out;have hcz9_0 : w4.cell? ⟨gb176,0,none⟩ = some (.int .i64 0):=(kC_ BK176.out 0).trans rfl;have hcz9_1 : w4.cell? ⟨gb176,1,none⟩ = some (.bool false):=(kC_ BK176.out 1).trans rfl;have hfz9_0:=kF_ BK176.out 0;have hfz9_1:=kF_ BK176.out 1;have hcz10_0 : w4.cell? ⟨gb175,0,none⟩ = some (.int .i64 0):=(kC_ BK175.out 0).trans rfl;have hcz10_1 : w4.cell? ⟨gb175,1,none⟩ = some (.bool false):=(kC_ BK175.out 1).trans rfl;have hfz10_0:=kF_ BK175.out 0;have hfz10_1:=kF_ BK175.out 1))
 refine bodyPost_ret (results_cell_row rfl _ _ gb175 85 #[.int .i64 a0_0,.bool a0_1] (0,0) _ rfl (by (with_reducible repeat (first | refine kN_ ?_ _ | refine kD_ ?_ | refine kA_ ?_ _));refine kP_ (cs:=#[.int .i64 a0_0,.bool false]) ?_ 1 _ rfl;(with_reducible repeat (first | refine kN_ ?_ _ | refine kD_ ?_ | refine kA_ ?_ _));refine kP_ (cs:=#[.int .i64 0,.bool false]) ?_ 0 _ rfl;exact kW_ BK175) Tryd.underlying85 rfl (by kernel_rfl)) rfl ?_
 exact ⟨by first | rfl | (simp [errW_none,errW_some] <;> rfl) | (simp [*, errW_none,errW_some] <;> rfl),by exact bZ_ HB⟩
def laws_toByS.l0 : Nat → List (S137) → List (S85) → Int → Option ((List (S85)))
 | 0,_,_,_=>none
 | k + 1,x0,x3,x4=>if x4 < (x0.length : Int) then (if 0 ≤ x4 then ((laws_toBy.f ((rd_T137 x0 x4).f0) ((rd_T137 x0 x4).f1)).bind fun bt181=>(if x4 < (x3.length : Int) then (laws_toByS.l0 k x0 (x3.set (x4 : Int).toNat (⟨bt181.1,bt181.2⟩ : S85)) (wrap64 (x4 + 1))) else (none))) else (none)) else (some x3)
def laws_toByS.f (k : Nat) (l0 : List (S137)) : Option ((List (S85))):=if 0 ≤ (l0.length : Int) then (if ((l0.length : Int) : Int).toNat ≤ 17592186044416 then (laws_toByS.l0 k l0 (List.replicate ((l0.length : Int) : Int).toNat z85) 0) else (none)) else (none)
theorem laws_toByS.mono_l : ∀ k,(∀ y0 y1 y2,LeO (laws_toByS.l0 k y0 y1 y2) (laws_toByS.l0 (k + 1) y0 y1 y2))
 | 0=>fun _ _ _ r h=>by simp [laws_toByS.l0] at h
 | k + 1=>by
  have ih0:=laws_toByS.mono_l k
  ·intro y0 y1 y2
   unfold laws_toByS.l0
   repeat' first
   | (with_reducible exact ih0 _ _ _)
   | (with_reducible exact LeO.refl _)
   | (with_reducible exact LeO.none _)
   | (with_reducible refine LeO.ite ?_ ?_)
   | (with_reducible refine LeO.bind ?_ (fun _=>?_))
   | exact ih0 _ _ _
   | exact LeO.none _
   | refine LeO.ite ?_ ?_
   | refine LeO.bind ?_ (fun _=>?_)
theorem laws_toByS.mono : ∀ a0 k,LeO (laws_toByS.f k a0) (laws_toByS.f (k + 1) a0):=by
 intro a0 k
 have ih0:=laws_toByS.mono_l k
 unfold laws_toByS.f
 repeat' first
   | (with_reducible exact ih0 _ _ _)
   | (with_reducible exact LeO.refl _)
   | (with_reducible exact LeO.none _)
   | (with_reducible refine LeO.ite ?_ ?_)
   | (with_reducible refine LeO.bind ?_ (fun _=>?_))
   | exact ih0 _ _ _
   | exact LeO.none _
   | refine LeO.ite ?_ ?_
   | refine LeO.bind ?_ (fun _=>?_)
set_option maxHeartbeats 8000000 in
set_option maxRecDepth 100000 in
theorem laws_toByS.calls (k : Nat) (A0 : Option Addr) (c0 : Nat) (l0 : List (S137)) (r : List (S85)) (w : World) (hr0 : Kd.C k137 w A0 l0.length l0) (hc0 : l0.length ≤ c0) (h : laws_toByS.f k l0 = some r) :
  Calls Tryd.prog 74 #[.slice A0 l0.length c0] w fun e w'=>∃ v0_ : Value,e = .returned (v0_) ∧ Kd.R k85 85 w' w.heap.size (fun _=>True) v0_ r ∧ Below w.heap.size w w':=by
 have hu137:=Tryd.underlying137
 have hu85:=Tryd.underlying85
 have HR0:=aM_ hr0
 have HC0:=aM_ hc0
 clear hr0 hc0
 have HB:=aM_ (Below.refl w.heap.size w)
 have H : (if 0 ≤ (l0.length : Int) then (if ((l0.length : Int) : Int).toNat ≤ 17592186044416 then (laws_toByS.l0 k l0 (List.replicate ((l0.length : Int) : Int).toNat z85) 0) else (none)) else (none)) = some r:=h
 clear h
 by_cases c2 : 0 ≤ (l0.length : Int)
 ·rw [if_pos c2] at H
  have c2b0:=eq_true c2
  have c2b1 : decide (0 ≤ (l0.length : Int)) = true:=decide_eq_true c2
  clear c2
  by_cases c3 : ((l0.length : Int) : Int).toNat ≤ 17592186044416
  ·rw [if_pos c3] at H
   have c3b0:=eq_true c3
   have c3b1 : decide (((l0.length : Int) : Int).toNat ≤ 17592186044416) = true:=decide_eq_true c3
   clear c3
   obtain ⟨y177,hy177⟩ : ∃ y_ : List (S85),y_ = (List.replicate ((l0.length : Int) : Int).toNat z85):=⟨_,rfl⟩
   replace H : (laws_toByS.l0 k l0 y177 0) = some r:=by first | (rw [hy177];with_reducible exact H) | (have H2_:=(Option.bind_some _ _).symm.trans H;rw [hy177];with_reducible exact H2_) | (have H2_:=(Option.bind_some _ _).symm.trans H;with_reducible exact H2_) | with_reducible exact H | (rw [hy177];exact H) | exact H
   have Ny177:=aM_ hy177
   clear hy177
   have H':=aM_ H
   clear H
   go_enter Tryd.func74,Tryd.ntmps74
   go_wp2_with (first | ((with_reducible refine gate_dst (N:=7) rfl ?_);refine Kd.R_make k85 _ 85 rfl (N:=7) rfl 32 _ _ rfl (l0.length : Int) rfl rfl Tryd.underlying32 (.agg #[(.int .i64 0),(.bool false)]) 16 info85 rfl (by decide) (by omega) z85 (ok:=fun _=>True) (okp:=fun _=>True) (k85_mkM _ _ _ z85 ) (fun _ hk=>hk) trivial (oT_ (by first | (with_reducible assumption) | assumption)) (Nat.le_trans (Nat.mul_le_mul_right _ (oT_ (by first | (with_reducible assumption) | assumption) : (l0.length : Int).toNat ≤ 17592186044416)) (by omega)) (Below.refl _ _) (Nat.le_refl _) ?_;intro v178 w4 ho5 hb hg_ hnew_;clear hg_ hnew_;(first | rw [← Ny177.out] at ho5 | (simp only [Int.reduceToNat] at ho5;rw [← Ny177.out] at ho5));have n0_:=aM_ (Kd.R_lower ho5 (bS_ (by exact bZ_ HB)));have n1_:=aM_ (bT_ (by exact bZ_ HB) hb);clear HB;have HO179:=n0_;have HB:=n1_;clear n0_ n1_;clear hb ho5))
   (try simp only [Act.put,sI_,sS_,sZ_])
   go_loopg [4] k (fun kq v4 w'=>∃ (x3_1 : List (S85)) (x4_1 : Int),v4 = .int .i64 x4_1 ∧ Aside0 (laws_toByS.l0 kq l0 x3_1 x4_1 = some r) ∧ Aside0 (kq ≤ k) ∧ Aside0 (Kd.R k85 85 w' w.heap.size (fun _=>True) v178 x3_1) ∧ Aside0 (Below w.heap.size w w'))
   case atStart=>exact ⟨(y177),(0),(by first | rfl | (simp;done) | (simp [*];done)),H', ⟨Nat.le_refl _⟩,⟨by exact rZ_ HO179⟩,⟨by exact bZ_ HB⟩⟩
   case round =>
    clear H'
    try clear c2
    try clear c2b0
    try clear c2b1
    try clear p2
    try clear c3
    try clear c3b0
    try clear c3b1
    obtain ⟨x3_1,x4_1,rfl,HA,HK1,HO_3,HB⟩:=hrel
    cases gk with
    | zero=>exact absurd HA.out (by simp [laws_toByS.l0])
    | succ k1 =>
     have H:=HA.out
     clear HA
     simp only [laws_toByS.l0] at H
     by_cases c6 : x4_1 < (l0.length : Int)
     ·rw [if_pos c6] at H
      have c6b0 : decide (x4_1 < (l0.length : Int)) = true:=decide_eq_true c6
      clear c6
      by_cases c7 : 0 ≤ x4_1
      ·rw [if_pos c7] at H
       have c7b0 : decide (0 ≤ x4_1) = true:=decide_eq_true c7
       clear c7
       replace H:=oB_ H
       obtain ⟨⟨t181,t182⟩,A80,H⟩:=H
       replace H : (if x4_1 < (x3_1.length : Int) then (laws_toByS.l0 k1 l0 (x3_1.set (x4_1 : Int).toNat (⟨t181,t182⟩ : S85)) (wrap64 (x4_1 + 1))) else (none)) = some r:=H
       have A8:=aM_ A80
       clear A80
       by_cases c9 : x4_1 < (x3_1.length : Int)
       ·rw [if_pos c9] at H
        have c9b0 : decide (x4_1 < (x3_1.length : Int)) = true:=decide_eq_true c9
        clear c9
        obtain ⟨y183,hy183⟩ : ∃ y_ : List (S85),y_ = (x3_1.set (x4_1 : Int).toNat (⟨t181,t182⟩ : S85)):=⟨_,rfl⟩
        replace H : (laws_toByS.l0 k1 l0 y183 (wrap64 (x4_1 + 1))) = some r:=by first | (rw [hy183];with_reducible exact H) | (have H2_:=(Option.bind_some _ _).symm.trans H;rw [hy183];with_reducible exact H2_) | (have H2_:=(Option.bind_some _ _).symm.trans H;with_reducible exact H2_) | with_reducible exact H | (rw [hy183];exact H) | exact H
        have Ny183:=aM_ hy183
        clear hy183
        have H':=aM_ H
        clear H
        have p180 : 0 ≤ (x4_1 : Int):=oT_ (by first | (with_reducible assumption) | assumption)
        have q180 : x4_1 < (l0.length : Int):=oT_ (by first | (with_reducible assumption) | assumption)
        obtain ⟨ad180,e180,hx180_0,hx180_1⟩:=at_T137 HR0.out x4_1 p180 q180
        cases e180
        replace hx180_0:=(HB.out.cell (wL_ w _ hx180_0)).trans hx180_0
        replace hx180_1:=(HB.out.cell (wL_ w _ hx180_1)).trans hx180_1
        replace p180:=eq_true p180
        replace q180:=eq_true q180
        go_wp2_with (first | ((with_reducible refine gate_callee (f:=115) rfl ?_);refine goesL_ (some 20) rfl rfl Tryd.func115 (by kernel_rfl) rfl #[.agg #[.int .i64 ((rd_T137 l0 x4_1).f0),.bool ((rd_T137 l0 x4_1).f1)]] rfl (by (try simp only [mA_,mC_,mN_]);first | done | rfl | (simp only [lD_,lT_];rfl)) ?_;(with_reducible refine (laws_toBy.calls ((rd_T137 l0 x4_1).f0) ((rd_T137 l0 x4_1).f1) t181 t182 _ A8.out).mono ?_);rintro e w11 ⟨rfl,hb⟩;refine ⟨_,rfl,?_⟩;have n0_:=aM_ (Kd.R_below (by exact rZ_ HO_3) hb);have n1_:=aM_ (bT_ (by exact bZ_ HB) hb);clear HO_3;clear HB;have HO_3:=n0_;have HB:=n1_;clear n0_ n1_;(try clear hb);(try clear hb2);(try clear hk);(try clear hi);have p10 : 0 ≤ (x4_1 : Int):=oT_ (by first | (with_reducible assumption) | assumption);have q10 : (x4_1 : Int) < ((x3_1.length : Int) : Int):=oT_ (by first | (with_reducible assumption) | assumption);obtain ⟨go10,co10,eo10,gb10,gl10,cl10,HG10⟩:=Kd.R_form HO_3.out (by omega);(first | cases eo10 | (injection eo10 with ea_ en_ ec_;(first | subst ea_ | (injection ea_ with ea_;subst ea_));subst ec_;clear en_));have GB10:=aM_ gb10;have GG10:=aM_ HG10;clear gb10 gl10 HG10;obtain ⟨ce10,hcl10,hM10,hcc10,hfr10⟩:=Kd.R_elem HO_3.out z85 (x4_1 : Int) p10 q10;obtain rfl:=k85_openM hM10;have hx10_0 : w11.cell? ⟨go10,(x4_1 : Int).toNat * 2,none⟩ = some (.int .i64 ((rd_T85 x3_1 x4_1).f0)):=hcc10 0 _ rfl;have hx10_1 : w11.cell? ⟨go10,(x4_1 : Int).toNat * 2 + 1,none⟩ = some (.bool ((rd_T85 x3_1 x4_1).f1)):=hcc10 1 _ rfl;have hf10_0 : w11.frozen? ⟨go10,(x4_1 : Int).toNat * 2,none⟩ = false:=hfr10 0;have hf10_1 : w11.frozen? ⟨go10,(x4_1 : Int).toNat * 2 + 1,none⟩ = false:=hfr10 1;(try clear hM10);clear hcl10 hcc10 hfr10;replace p10:=eq_true p10;replace q10:=eq_true q10;have HX12:=aM_ (show Kd.R k85 85 w11 w.heap.size (fun _=>True) (.slice (some ⟨go10,0,none⟩) x3_1.length co10) x3_1 from (by exact rZ_ HO_3));obtain ⟨ce12,hcl12,hM12,hcc12,hfr12⟩:=Kd.R_elem HX12.out z85 (x4_1 : Int) (oT_ (by first | (with_reducible assumption) | assumption)) (by have h_ : (x4_1 : Int) < ((x3_1.length : Int) : Int):=oT_ (by first | (with_reducible assumption) | assumption);first | exact h_ | (have e_:=(Kd.R_reads' HO_3.out).1;omega) | simpa using h_);obtain rfl:=k85_openM hM12;have HP12:=Kd.R_seg HX12.out (x4_1 : Int) (oT_ (by first | (with_reducible assumption) | assumption)) (by have h_ : (x4_1 : Int) < ((x3_1.length : Int) : Int):=oT_ (by first | (with_reducible assumption) | assumption);first | exact h_ | (have e_:=(Kd.R_reads' HO_3.out).1;omega) | simpa using h_) (seg:=[.int .i64 t181,.bool t182]) (j:=0) hcl12 hcc12 (show 2 ≤ 2 from by decide) (x':=(⟨t181,t182⟩ : S85)) (k85_mkM _ _ _ (⟨t181,t182⟩ : S85) ) (fun _ hk=>hk);have hx12_0:=hcc12 0 _ rfl;(try simp only [show (k85).sz = 2 from rfl,Nat.mul_one,Nat.add_zero] at hx12_0);have hf12_0:=hfr12 0;(try simp only [show (k85).sz = 2 from rfl,Nat.mul_one,Nat.add_zero] at hf12_0);have hx12_1:=hcc12 1 _ rfl;(try simp only [show (k85).sz = 2 from rfl,Nat.mul_one,Nat.add_zero] at hx12_1);have hf12_1:=hfr12 1;(try simp only [show (k85).sz = 2 from rfl,Nat.mul_one,Nat.add_zero] at hf12_1);(try clear hM12);clear hcl12 hcc12 hfr12) | ((with_reducible refine gate_store (t:=85) (p:=21) rfl ?_);refine store_event (t:=85) (p:=21) (v:=?vo_w13) (w1:=((w11.setCell ⟨go10,(x4_1 : Int).toNat * 2,none⟩ (.int .i64 t181)).setCell ⟨go10,(x4_1 : Int).toNat * 2 + 1,none⟩ (.bool t182))) ?hg ?ho ?hn ?hr ?_;(case ho=>rfl);(case hg=>rfl);(case hn=>rfl);(case hr=>first | (go_simp;done) | (go_simp;rfl));intro w13 hw;have hg : w11.grownBy w13 (some go10):=(by rw [hw];exact HP12.2);have hp_ : Kd.R k85 85 w13 w.heap.size (fun _=>True) (.slice (some ⟨go10,0,none⟩) x3_1.length co10) y183:=(by rw [hw,Ny183.out];exact HP12.1);clear HP12;have n0_:=aM_ (hp_);have n1_:=aM_ ((by rw [hw];exact bE_ (bE_ (HB.out) GB10.out) GB10.out : Below w.heap.size w w13));clear HO_3;clear HB;have HO_3:=n0_;have HB:=n1_;clear n0_ n1_;clear hg hw hp_))
        go_roundg k1
        case measure=>have:=HK1.out;omega
        case rel=>exact ⟨(y183),(wrap64 (x4_1 + 1)),(by first | rfl | (simp;done) | (simp [*];done)),H', ⟨by have:=HK1.out;omega⟩,⟨by exact rZ_ HO_3⟩,⟨by exact bZ_ HB⟩⟩
       ·rw [if_neg c9] at H
        exact absurd H (by simp)
      ·rw [if_neg c7] at H
       exact absurd H (by simp)
     ·rw [if_neg c6] at H
      have c6b0 : decide (x4_1 < (l0.length : Int)) = false:=decide_eq_false c6
      clear c6
      obtain rfl:=Option.some.inj H
      go_wp2
      go_ret
      exact ⟨_,by first | rfl | (simp [errW_none,errW_some] <;> rfl) | (simp [*, errW_none,errW_some] <;> rfl),by exact rZ_ HO_3,by exact bZ_ HB⟩
  ·rw [if_neg c3] at H
   exact absurd H (by simp)
 ·rw [if_neg c2] at H
  exact absurd H (by simp)
def laws_toIndex.f (k : Nat) (a0_0 : ByteArray) (a0_1 : Bool) (l0_2 : List (S137)) : Option (ByteArray × Bool × (List (S85))):=(laws_toByS.f k l0_2).bind fun t187=>(some (a0_0,a0_1,t187))
theorem laws_toIndex.mono : ∀ a0 a1 a2 k,LeO (laws_toIndex.f k a0 a1 a2) (laws_toIndex.f (k + 1) a0 a1 a2):=by
 intro a0 a1 a2 k
 unfold laws_toIndex.f
 repeat' first
   | (with_reducible exact laws_toByS.mono _ _)
   | (with_reducible exact LeO.refl _)
   | (with_reducible exact LeO.none _)
   | (with_reducible refine LeO.ite ?_ ?_)
   | (with_reducible refine LeO.bind ?_ (fun _=>?_))
   | exact laws_toByS.mono _ _
   | exact LeO.none _
   | refine LeO.ite ?_ ?_
   | refine LeO.bind ?_ (fun _=>?_)
set_option maxHeartbeats 8000000 in
set_option maxRecDepth 100000 in
theorem laws_toIndex.calls (k : Nat) (a0_0 : ByteArray) (a0_1 : Bool) (A0_2 : Option Addr) (c0_2 : Nat) (l0_2 : List (S137)) (r1 : ByteArray) (r2 : Bool) (r3 : List (S85)) (w : World) (hr0_2 : Kd.C k137 w A0_2 l0_2.length l0_2) (hc0_2 : l0_2.length ≤ c0_2) (h : laws_toIndex.f k a0_0 a0_1 l0_2 = some (r1,r2,r3)) :
  Calls Tryd.prog 116 #[.agg #[.string a0_0,.bool a0_1,.slice A0_2 l0_2.length c0_2]] w fun e w'=>∃ v2_ : Value,e = .returned (.agg #[.string r1,.bool r2,v2_]) ∧ Kd.R k85 85 w' w.heap.size (fun _=>True) v2_ r3 ∧ Below w.heap.size w w':=by
 have hu134:=Tryd.underlying134
 have hu69:=Tryd.underlying69
 have HR0_2:=aM_ hr0_2
 have HC0_2:=aM_ hc0_2
 clear hr0_2 hc0_2
 have HB:=aM_ (Below.refl w.heap.size w)
 have H : ((laws_toByS.f k l0_2).bind fun t187=>(some (a0_0,a0_1,t187))) = some (r1,r2,r3):=h
 clear h
 replace H:=oB_ H
 obtain ⟨t187,A20,H⟩:=H
 replace H : (some (a0_0,a0_1,t187)) = some (r1,r2,r3):=H
 have A2:=aM_ A20
 clear A20
 simp only [Option.some.injEq,Prod.mk.injEq] at H
 obtain ⟨rfl,rfl,rfl⟩:=H
 go_enter Tryd.func116,Tryd.ntmps116
 go_wp2_with (first | ((with_reducible refine gate_dst (N:=1) rfl ?_);refine box_event ?hg (N:=1) ?hd (cs:=#[.string a0_0,.bool a0_1,.slice A0_2 l0_2.length c0_2]) (t:=134) ?hr ?_;(case hd=>rfl);(case hg=>rfl);(case hr=>first | (go_simp;done) | (go_simp;rfl));intro gb184 hg w3 hbox hb;have n0_:=aM_ (bT_ (by exact bZ_ HB) hb);have n1_:=aM_ (hbox);have n2_:=aM_ ((by rw [hg];exact (bS_ (by exact bZ_ HB)) : w.heap.size ≤ gb184));have n3_:=aM_ ((by rw [hg];exact (bS_ (by exact bZ_ HB)) : w.heap.size ≤ gb184));clear HB;have HB:=n0_;have BK184:=n1_;have GW184:=n2_;have GE184:=n3_;clear n0_ n1_ n2_ n3_;clear hb hbox hg) | ((with_reducible refine gate_dst (N:=2) rfl ?_);refine box_event ?hg (N:=2) ?hd (cs:=#[.string (⟨#[]⟩ : ByteArray),.bool false,.slice none 0 0]) (t:=69) ?hr ?_;(case hd=>rfl);(case hg=>rfl);(case hr=>first | (go_simp;done) | (go_simp;rfl));intro gb185 hg w4 hbox hb;have n0_:=aM_ (blk_below (g:=gb184) (o:=.cells #[.string a0_0,.bool a0_1,.slice A0_2 l0_2.length c0_2] 134 (0,0)) (by exact kZ_ BK184) hb);have n1_:=aM_ (bT_ (by exact bZ_ HB) hb);have n2_:=aM_ (hbox);have n3_:=aM_ ((by rw [hg];exact (bS_ (by exact bZ_ HB)) : w.heap.size ≤ gb185));have n4_:=aM_ ((by rw [hg];exact (bS_ (by exact bZ_ HB)) : w.heap.size ≤ gb185));have n5_:=aM_ ((by rw [hg];exact Nat.ne_of_lt (blk_lt (g:=gb184) (o:=.cells #[.string a0_0,.bool a0_1,.slice A0_2 l0_2.length c0_2] 134 (0,0)) (by exact kZ_ BK184)) : gb184 ≠ gb185));have n6_:=aM_ ((by rw [hg];exact Nat.ne_of_gt (blk_lt (g:=gb184) (o:=.cells #[.string a0_0,.bool a0_1,.slice A0_2 l0_2.length c0_2] 134 (0,0)) (by exact kZ_ BK184)) : gb185 ≠ gb184));clear BK184;clear HB;have BK184:=n0_;have HB:=n1_;have BK185:=n2_;have GW185:=n3_;have GE185:=n4_;have NB184_185:=n5_;have NB185_184:=n6_;clear n0_ n1_ n2_ n3_ n4_ n5_ n6_;clear hb hbox hg) | ((with_reducible refine gate_dst (N:=3) rfl ?_);refine box_event ?hg (N:=3) ?hd (cs:=#[.string (⟨#[]⟩ : ByteArray),.bool false,.slice none 0 0]) (t:=69) ?hr ?_;(case hd=>rfl);(case hg=>rfl);(case hr=>first | (go_simp;done) | (go_simp;rfl));intro gb186 hg w5 hbox hb;have n0_:=aM_ (blk_below (g:=gb184) (o:=.cells #[.string a0_0,.bool a0_1,.slice A0_2 l0_2.length c0_2] 134 (0,0)) (by exact kZ_ BK184) hb);have n1_:=aM_ (blk_below (g:=gb185) (o:=.cells #[.string (⟨#[]⟩ : ByteArray),.bool false,.slice none 0 0] 69 (0,0)) (by exact kZ_ BK185) hb);have n2_:=aM_ (bT_ (by exact bZ_ HB) hb);have n3_:=aM_ (hbox);have n4_:=aM_ ((by rw [hg];exact (bS_ (by exact bZ_ HB)) : w.heap.size ≤ gb186));have n5_:=aM_ ((by rw [hg];exact (bS_ (by exact bZ_ HB)) : w.heap.size ≤ gb186));have n6_:=aM_ ((by rw [hg];exact Nat.ne_of_lt (blk_lt (g:=gb184) (o:=.cells #[.string a0_0,.bool a0_1,.slice A0_2 l0_2.length c0_2] 134 (0,0)) (by exact kZ_ BK184)) : gb184 ≠ gb186));have n7_:=aM_ ((by rw [hg];exact Nat.ne_of_gt (blk_lt (g:=gb184) (o:=.cells #[.string a0_0,.bool a0_1,.slice A0_2 l0_2.length c0_2] 134 (0,0)) (by exact kZ_ BK184)) : gb186 ≠ gb184));have n8_:=aM_ ((by rw [hg];exact Nat.ne_of_lt (blk_lt (g:=gb185) (o:=.cells #[.string (⟨#[]⟩ : ByteArray),.bool false,.slice none 0 0] 69 (0,0)) (by exact kZ_ BK185)) : gb185 ≠ gb186));have n9_:=aM_ ((by rw [hg];exact Nat.ne_of_gt (blk_lt (g:=gb185) (o:=.cells #[.string (⟨#[]⟩ : ByteArray),.bool false,.slice none 0 0] 69 (0,0)) (by exact kZ_ BK185)) : gb186 ≠ gb185));clear BK184;clear BK185;clear HB;have BK184:=n0_;have BK185:=n1_;have HB:=n2_;have BK186:=n3_;have GW186:=n4_;have GE186:=n5_;have NB184_186:=n6_;have NB186_184:=n7_;have NB185_186:=n8_;have NB186_185:=n9_;clear n0_ n1_ n2_ n3_ n4_ n5_ n6_ n7_ n8_ n9_;clear hb hbox hg;have hnb6:=NB184_185.out;have hnc6:=NB185_184.out;have hnb7:=NB184_186.out;have hnc7:=NB186_184.out;have hcz8_0 : w5.cell? ⟨gb184,0,none⟩ = some (.string a0_0):=(kC_ BK184.out 0).trans rfl;have hcz8_1 : w5.cell? ⟨gb184,1,none⟩ = some (.bool a0_1):=(kC_ BK184.out 1).trans rfl;have hcz8_2 : w5.cell? ⟨gb184,2,none⟩ = some (.slice A0_2 l0_2.length c0_2):=(kC_ BK184.out 2).trans rfl;have hfz8_0:=kF_ BK184.out 0;have hfz8_1:=kF_ BK184.out 1;have hfz8_2:=kF_ BK184.out 2;have hnb9:=NB186_185.out;have hnc9:=NB185_186.out;have hcz10_0 : w5.cell? ⟨gb186,0,none⟩ = some (.string (⟨#[]⟩ : ByteArray)):=(kC_ BK186.out 0).trans rfl;have hcz10_1 : w5.cell? ⟨gb186,1,none⟩ = some (.bool false):=(kC_ BK186.out 1).trans rfl;have hcz10_2 : w5.cell? ⟨gb186,2,none⟩ = some (.slice none 0 0):=(kC_ BK186.out 2).trans rfl;have hfz10_0:=kF_ BK186.out 0;have hfz10_1:=kF_ BK186.out 1;have hfz10_2:=kF_ BK186.out 2) | ((with_reducible refine gate_callee (f:=74) rfl ?_);refine goesL_ (some 12) rfl rfl Tryd.func74 (by kernel_rfl) rfl #[.slice A0_2 l0_2.length c0_2] rfl (by (try simp only [mA_,mC_,mN_]);first | done | rfl | (simp only [lD_,lT_];rfl)) ?_;(with_reducible refine (laws_toByS.calls k _ _ l0_2 t187 _ ?side1 ?side2 A2.out).mono ?_);(case side1=>exact Kd.C_below HR0_2.out (by exact bZ_ HB));(case side2=>exact HC0_2.out);rintro e w11 ⟨v188,rfl,ho0,hb⟩;refine ⟨_,rfl,?_⟩;have n0_:=aM_ (Kd.R_lower ho0 (bS_ (by exact bZ_ HB)));have n1_:=aM_ (blk_below (g:=gb184) (o:=.cells #[.string a0_0,.bool a0_1,.slice A0_2 l0_2.length c0_2] 134 (0,0)) (by exact kW_ BK184) hb);have n2_:=aM_ (blk_below (g:=gb185) (o:=.cells #[.string (⟨#[]⟩ : ByteArray),.bool false,.slice none 0 0] 69 (0,0)) (by exact kW_ BK185) hb);have n3_:=aM_ (blk_below (g:=gb186) (o:=.cells #[.string a0_0,.bool a0_1,.slice none 0 0] 69 (0,0)) (by (with_reducible repeat (first | refine kN_ ?_ _ | refine kD_ ?_ | refine kA_ ?_ _));refine kP_ (cs:=#[.string a0_0,.bool false,.slice none 0 0]) ?_ 1 _ rfl;(with_reducible repeat (first | refine kN_ ?_ _ | refine kD_ ?_ | refine kA_ ?_ _));refine kP_ (cs:=#[.string (⟨#[]⟩ : ByteArray),.bool false,.slice none 0 0]) ?_ 0 _ rfl;exact kZ_ BK186) hb);have n4_:=aM_ (bT_ (by exact bZ_ HB) hb);clear BK184;clear BK185;clear BK186;clear HB;have HO189:=n0_;have BK184:=n1_;have BK185:=n2_;have BK186:=n3_;have HB:=n4_;clear n0_ n1_ n2_ n3_ n4_;(try clear hb);(try clear hb2);(try clear hk);(try clear hi);(try clear ho0);obtain ⟨Ao12,co12,eo12⟩:=Kd.R_slice HO189.out;subst eo12;have hcz13_0 : w11.cell? ⟨gb186,0,none⟩ = some (.string a0_0):=(kC_ BK186.out 0).trans rfl;have hcz13_1 : w11.cell? ⟨gb186,1,none⟩ = some (.bool a0_1):=(kC_ BK186.out 1).trans rfl;have hcz13_2 : w11.cell? ⟨gb186,2,none⟩ = some (.slice none 0 0):=(kC_ BK186.out 2).trans rfl;have hfz13_0:=kF_ BK186.out 0;have hfz13_1:=kF_ BK186.out 1;have hfz13_2:=kF_ BK186.out 2;have hcz14_0 : w11.cell? ⟨gb185,0,none⟩ = some (.string (⟨#[]⟩ : ByteArray)):=(kC_ BK185.out 0).trans rfl;have hcz14_1 : w11.cell? ⟨gb185,1,none⟩ = some (.bool false):=(kC_ BK185.out 1).trans rfl;have hcz14_2 : w11.cell? ⟨gb185,2,none⟩ = some (.slice none 0 0):=(kC_ BK185.out 2).trans rfl;have hfz14_0:=kF_ BK185.out 0;have hfz14_1:=kF_ BK185.out 1;have hfz14_2:=kF_ BK185.out 2))
 refine bodyPost_ret (results_cell_row rfl _ _ gb185 69 #[.string a0_0,.bool a0_1,.slice Ao12 t187.length co12] (0,0) _ rfl (by (with_reducible repeat (first | refine kN_ ?_ _ | refine kD_ ?_ | refine kA_ ?_ _));refine kP_ (cs:=#[.string a0_0,.bool a0_1,.slice none 0 0]) ?_ 2 _ rfl;(with_reducible repeat (first | refine kN_ ?_ _ | refine kD_ ?_ | refine kA_ ?_ _));refine kP_ (cs:=#[.string a0_0,.bool false,.slice none 0 0]) ?_ 1 _ rfl;(with_reducible repeat (first | refine kN_ ?_ _ | refine kD_ ?_ | refine kA_ ?_ _));refine kP_ (cs:=#[.string (⟨#[]⟩ : ByteArray),.bool false,.slice none 0 0]) ?_ 0 _ rfl;exact kW_ BK185) Tryd.underlying69 rfl (by kernel_rfl)) rfl ?_
 exact ⟨_,by first | rfl | (simp [errW_none,errW_some] <;> rfl) | (simp [*, errW_none,errW_some] <;> rfl),by (with_reducible repeat (first | apply rA_ | apply rN_ | apply rD_));exact Kd.R_mono (Kd.R_far (p:=⟨gb185,2,none⟩) (Kd.R_far (p:=⟨gb185,1,none⟩) (Kd.R_far (p:=⟨gb185,0,none⟩) (Kd.R_far (p:=⟨gb186,2,none⟩) (Kd.R_types (Kd.R_types HO189.out BK186.out (by decide)) BK185.out (by decide)) (fun _ hk=>hk.1.2) (.slice Ao12 t187.length co12)) (fun _ hk=>hk.2) (.string a0_0)) (fun _ hk=>hk.2) (.bool a0_1)) (fun _ hk=>hk.2) (.slice Ao12 t187.length co12)) (fun _ hk=>trivial),by exact bZ_ HB⟩
def laws_toIndexS.l0 : Nat → List (S134) → List (S69) → Int → Option ((List (S69)))
 | 0,_,_,_=>none
 | k + 1,x0,x3,x4=>if x4 < (x0.length : Int) then (if 0 ≤ x4 then ((laws_toIndex.f k ((rd_T134 x0 x4).f0) ((rd_T134 x0 x4).f1) ((rd_T134 x0 x4).f2)).bind fun bt194=>(if x4 < (x3.length : Int) then (laws_toIndexS.l0 k x0 (x3.set (x4 : Int).toNat (⟨bt194.1,bt194.2.1,bt194.2.2⟩ : S69)) (wrap64 (x4 + 1))) else (none))) else (none)) else (some x3)
def laws_toIndexS.f (k : Nat) (l0 : List (S134)) : Option ((List (S69))):=if 0 ≤ (l0.length : Int) then (if ((l0.length : Int) : Int).toNat ≤ 5864062014805 then (laws_toIndexS.l0 k l0 (List.replicate ((l0.length : Int) : Int).toNat z69) 0) else (none)) else (none)
theorem laws_toIndexS.mono_l : ∀ k,(∀ y0 y1 y2,LeO (laws_toIndexS.l0 k y0 y1 y2) (laws_toIndexS.l0 (k + 1) y0 y1 y2))
 | 0=>fun _ _ _ r h=>by simp [laws_toIndexS.l0] at h
 | k + 1=>by
  have ih0:=laws_toIndexS.mono_l k
  ·intro y0 y1 y2
   unfold laws_toIndexS.l0
   repeat' first
   | (with_reducible exact ih0 _ _ _)
   | (with_reducible exact laws_toIndex.mono _ _ _ _)
   | (with_reducible exact LeO.refl _)
   | (with_reducible exact LeO.none _)
   | (with_reducible refine LeO.ite ?_ ?_)
   | (with_reducible refine LeO.bind ?_ (fun _=>?_))
   | exact ih0 _ _ _
   | exact laws_toIndex.mono _ _ _ _
   | exact LeO.none _
   | refine LeO.ite ?_ ?_
   | refine LeO.bind ?_ (fun _=>?_)
theorem laws_toIndexS.mono : ∀ a0 k,LeO (laws_toIndexS.f k a0) (laws_toIndexS.f (k + 1) a0):=by
 intro a0 k
 have ih0:=laws_toIndexS.mono_l k
 unfold laws_toIndexS.f
 repeat' first
   | (with_reducible exact ih0 _ _ _)
   | (with_reducible exact laws_toIndex.mono _ _ _ _)
   | (with_reducible exact LeO.refl _)
   | (with_reducible exact LeO.none _)
   | (with_reducible refine LeO.ite ?_ ?_)
   | (with_reducible refine LeO.bind ?_ (fun _=>?_))
   | exact ih0 _ _ _
   | exact laws_toIndex.mono _ _ _ _
   | exact LeO.none _
   | refine LeO.ite ?_ ?_
   | refine LeO.bind ?_ (fun _=>?_)
set_option maxHeartbeats 8000000 in
set_option maxRecDepth 100000 in
theorem laws_toIndexS.calls (k : Nat) (A0 : Option Addr) (c0 : Nat) (l0 : List (S134)) (r : List (S69)) (w : World) (hr0 : Kd.C k134 w A0 l0.length l0) (hc0 : l0.length ≤ c0) (h : laws_toIndexS.f k l0 = some r) :
  Calls Tryd.prog 75 #[.slice A0 l0.length c0] w fun e w'=>∃ v0_ : Value,e = .returned (v0_) ∧ Kd.S k69 69 w' w.heap.size (fun _=>True) v0_ r ∧ Below w.heap.size w w':=by
 have hu134:=Tryd.underlying134
 have hu69:=Tryd.underlying69
 have HR0:=aM_ hr0
 have HC0:=aM_ hc0
 clear hr0 hc0
 have HB:=aM_ (Below.refl w.heap.size w)
 have H : (if 0 ≤ (l0.length : Int) then (if ((l0.length : Int) : Int).toNat ≤ 5864062014805 then (laws_toIndexS.l0 k l0 (List.replicate ((l0.length : Int) : Int).toNat z69) 0) else (none)) else (none)) = some r:=h
 clear h
 by_cases c2 : 0 ≤ (l0.length : Int)
 ·rw [if_pos c2] at H
  have c2b0:=eq_true c2
  have c2b1 : decide (0 ≤ (l0.length : Int)) = true:=decide_eq_true c2
  clear c2
  by_cases c3 : ((l0.length : Int) : Int).toNat ≤ 5864062014805
  ·rw [if_pos c3] at H
   have c3b0:=eq_true c3
   have c3b1 : decide (((l0.length : Int) : Int).toNat ≤ 5864062014805) = true:=decide_eq_true c3
   clear c3
   obtain ⟨y190,hy190⟩ : ∃ y_ : List (S69),y_ = (List.replicate ((l0.length : Int) : Int).toNat z69):=⟨_,rfl⟩
   replace H : (laws_toIndexS.l0 k l0 y190 0) = some r:=by first | (rw [hy190];with_reducible exact H) | (have H2_:=(Option.bind_some _ _).symm.trans H;rw [hy190];with_reducible exact H2_) | (have H2_:=(Option.bind_some _ _).symm.trans H;with_reducible exact H2_) | with_reducible exact H | (rw [hy190];exact H) | exact H
   have Ny190:=aM_ hy190
   clear hy190
   have H':=aM_ H
   clear H
   go_enter Tryd.func75,Tryd.ntmps75
   go_wp2_with (first | ((with_reducible refine gate_dst (N:=7) rfl ?_);refine Kd.S_make k69 _ 69 rfl (N:=7) rfl 33 _ _ rfl (l0.length : Int) rfl rfl Tryd.underlying33 (.agg #[(.string ⟨#[]⟩),(.bool false),(.slice none 0 0)]) 48 info69 rfl (by decide) (by omega) z69 (ok:=fun _=>True) (okp:=fun _=>True) (k69_mkM _ _ _ z69 (Kd.R_nil _ _ _ _ _)) (fun _ hk=>hk) trivial (oT_ (by first | (with_reducible assumption) | assumption)) (Nat.le_trans (Nat.mul_le_mul_right _ (oT_ (by first | (with_reducible assumption) | assumption) : (l0.length : Int).toNat ≤ 5864062014805)) (by omega)) (Below.refl _ _) (Nat.le_refl _) ?_;intro v191 w4 ho5 hb hg_ hnew_;clear hg_ hnew_;(first | rw [← Ny190.out] at ho5 | (simp only [Int.reduceToNat] at ho5;rw [← Ny190.out] at ho5));have n0_:=aM_ (Kd.S_lower ho5 (bS_ (by exact bZ_ HB)));have n1_:=aM_ (bT_ (by exact bZ_ HB) hb);clear HB;have HO192:=n0_;have HB:=n1_;clear n0_ n1_;clear hb ho5))
   (try simp only [Act.put,sI_,sS_,sZ_])
   go_loopg [4] k (fun kq v4 w'=>∃ (x3_1 : List (S69)) (x4_1 : Int),v4 = .int .i64 x4_1 ∧ Aside0 (laws_toIndexS.l0 kq l0 x3_1 x4_1 = some r) ∧ Aside0 (kq ≤ k) ∧ Aside0 (Kd.S k69 69 w' w.heap.size (fun _=>True) v191 x3_1) ∧ Aside0 (Below w.heap.size w w'))
   case atStart=>exact ⟨(y190),(0),(by first | rfl | (simp;done) | (simp [*];done)),H', ⟨Nat.le_refl _⟩,⟨by (with_reducible repeat (first | apply Kd.S_alloc | apply Kd.S_drewN | apply Kd.S_drew));exact HO192.out⟩,⟨by exact bZ_ HB⟩⟩
   case round =>
    clear H'
    try clear c2
    try clear c2b0
    try clear c2b1
    try clear p2
    try clear c3
    try clear c3b0
    try clear c3b1
    obtain ⟨x3_1,x4_1,rfl,HA,HK1,HO_3,HB⟩:=hrel
    cases gk with
    | zero=>exact absurd HA.out (by simp [laws_toIndexS.l0])
    | succ k1 =>
     have H:=HA.out
     clear HA
     simp only [laws_toIndexS.l0] at H
     by_cases c6 : x4_1 < (l0.length : Int)
     ·rw [if_pos c6] at H
      have c6b0 : decide (x4_1 < (l0.length : Int)) = true:=decide_eq_true c6
      clear c6
      by_cases c7 : 0 ≤ x4_1
      ·rw [if_pos c7] at H
       have c7b0 : decide (0 ≤ x4_1) = true:=decide_eq_true c7
       clear c7
       replace H:=oB_ H
       obtain ⟨⟨t194,t195,t196⟩,A80,H⟩:=H
       replace H : (if x4_1 < (x3_1.length : Int) then (laws_toIndexS.l0 k1 l0 (x3_1.set (x4_1 : Int).toNat (⟨t194,t195,t196⟩ : S69)) (wrap64 (x4_1 + 1))) else (none)) = some r:=H
       have A8:=aM_ A80
       clear A80
       by_cases c9 : x4_1 < (x3_1.length : Int)
       ·rw [if_pos c9] at H
        have c9b0 : decide (x4_1 < (x3_1.length : Int)) = true:=decide_eq_true c9
        clear c9
        obtain ⟨y199,hy199⟩ : ∃ y_ : List (S69),y_ = (x3_1.set (x4_1 : Int).toNat (⟨t194,t195,t196⟩ : S69)):=⟨_,rfl⟩
        replace H : (laws_toIndexS.l0 k1 l0 y199 (wrap64 (x4_1 + 1))) = some r:=by first | (rw [hy199];with_reducible exact H) | (have H2_:=(Option.bind_some _ _).symm.trans H;rw [hy199];with_reducible exact H2_) | (have H2_:=(Option.bind_some _ _).symm.trans H;with_reducible exact H2_) | with_reducible exact H | (rw [hy199];exact H) | exact H
        have Ny199:=aM_ hy199
        clear hy199
        have H':=aM_ H
        clear H
        have p193 : 0 ≤ (x4_1 : Int):=oT_ (by first | (with_reducible assumption) | assumption)
        have q193 : x4_1 < (l0.length : Int):=oT_ (by first | (with_reducible assumption) | assumption)
        obtain ⟨ad193,A193_2,c193_2,e193,hx193_0,hx193_1,hx193_2,hl193_2,hi193_2⟩:=at_T134 HR0.out x4_1 p193 q193
        cases e193
        replace hx193_0:=(HB.out.cell (wL_ w _ hx193_0)).trans hx193_0
        replace hx193_1:=(HB.out.cell (wL_ w _ hx193_1)).trans hx193_1
        replace hx193_2:=(HB.out.cell (wL_ w _ hx193_2)).trans hx193_2
        have HR193_2:=aM_ hi193_2
        have HC193_2:=aM_ hl193_2
        clear hi193_2 hl193_2
        replace p193:=eq_true p193
        replace q193:=eq_true q193
        go_wp2_with (first | ((with_reducible refine gate_callee (f:=116) rfl ?_);refine goesL_ (some 20) rfl rfl Tryd.func116 (by kernel_rfl) rfl #[.agg #[.string ((rd_T134 l0 x4_1).f0),.bool ((rd_T134 l0 x4_1).f1),.slice A193_2 ((rd_T134 l0 x4_1).f2).length c193_2]] rfl (by (try simp only [mA_,mC_,mN_]);first | done | rfl | (simp only [lD_,lT_];rfl)) ?_;(with_reducible refine (laws_toIndex.calls k1 ((rd_T134 l0 x4_1).f0) ((rd_T134 l0 x4_1).f1) _ _ ((rd_T134 l0 x4_1).f2) t194 t195 t196 _ ?side1 ?side2 A8.out).mono ?_);(case side1=>repeat (first | exact (Kd.C_below HR193_2.out HB.out) | (with_reducible refine cA_ ?_ _) | (with_reducible refine cN_ ?_ _) | (with_reducible refine cD_ ?_)));(case side2=>exact HC193_2.out);rintro e w11 ⟨v197,rfl,ho0,hb⟩;refine ⟨_,rfl,?_⟩;have n0_:=aM_ (Kd.S_elder' (by (with_reducible repeat (first | apply Kd.S_alloc | apply Kd.S_drewN | apply Kd.S_drew));exact HO_3.out) (Kd.R_base ho0) hb);have n1_:=aM_ (Kd.R_lower ho0 (bS_ (by exact bZ_ HB)));have n2_:=aM_ (bT_ (by exact bZ_ HB) hb);clear HO_3;clear HB;have HO_3:=n0_;have HO198:=n1_;have HB:=n2_;clear n0_ n1_ n2_;(try clear hb);(try clear hb2);(try clear hk);(try clear hi);(try clear ho0);have p10 : 0 ≤ (x4_1 : Int):=oT_ (by first | (with_reducible assumption) | assumption);have q10 : (x4_1 : Int) < ((x3_1.length : Int) : Int):=oT_ (by first | (with_reducible assumption) | assumption);obtain ⟨go10,co10,eo10,gb10,gl10,cl10,HG10⟩:=Kd.S_form HO_3.out (by omega);(first | cases eo10 | (injection eo10 with ea_ en_ ec_;(first | subst ea_ | (injection ea_ with ea_;subst ea_));subst ec_;clear en_));have GB10:=aM_ gb10;have GG10:=aM_ HG10;clear gb10 gl10 HG10;obtain ⟨_,ce10,hcl10,hM10,hcc10,hfr10,_,_⟩:=Kd.S_elem HO_3.out z69 (x4_1 : Int) p10 q10;obtain ⟨ve10_2,rfl,ge10_2⟩:=k69_openM hM10;have hx10_0 : w11.cell? ⟨go10,(x4_1 : Int).toNat * 3,none⟩ = some (.string ((rd_T69 x3_1 x4_1).f0)):=hcc10 0 _ rfl;have hx10_1 : w11.cell? ⟨go10,(x4_1 : Int).toNat * 3 + 1,none⟩ = some (.bool ((rd_T69 x3_1 x4_1).f1)):=hcc10 1 _ rfl;have hx10_2 : w11.cell? ⟨go10,(x4_1 : Int).toNat * 3 + 2,none⟩ = some (ve10_2):=hcc10 2 _ rfl;have hf10_0 : w11.frozen? ⟨go10,(x4_1 : Int).toNat * 3,none⟩ = false:=hfr10 0;have hf10_1 : w11.frozen? ⟨go10,(x4_1 : Int).toNat * 3 + 1,none⟩ = false:=hfr10 1;have hf10_2 : w11.frozen? ⟨go10,(x4_1 : Int).toNat * 3 + 2,none⟩ = false:=hfr10 2;(try clear hM10);clear hcl10 hcc10 hfr10;replace p10:=eq_true p10;replace q10:=eq_true q10;obtain ⟨Ao12,co12,eo12⟩:=Kd.R_slice HO198.out;subst eo12;have n_:=aM_ (Kd.S_mono (ok':=(fun k_=>some k_ ≠ (.slice Ao12 t196.length co12 : Value).ownBlock)) HO_3.out (fun k_ hk=>hk.2));clear HO_3;have HO_3:=n_;clear n_;have HX13:=aM_ (show Kd.S k69 69 w11 w.heap.size (fun k_=>((fun _=>True)) k_ ∧ ¬ ((fun k_=>some k_ = (.slice Ao12 t196.length co12 : Value).ownBlock)) k_) (.slice (some ⟨go10,0,none⟩) x3_1.length co10) x3_1 from (by (with_reducible repeat (first | apply Kd.S_alloc | apply Kd.S_drewN | apply Kd.S_drew));exact Kd.S_mono HO_3.out (fun k_ hk=>⟨trivial,fun e_=>hk e_⟩)));obtain ⟨oki13,ce13,hcl13,hM13,hcc13,hfr13,hoki13,hH13⟩:=Kd.S_elem HX13.out z69 (x4_1 : Int) (oT_ (by first | (with_reducible assumption) | assumption)) (by have h_ : (x4_1 : Int) < ((x3_1.length : Int) : Int):=oT_ (by first | (with_reducible assumption) | assumption);first | exact h_ | (have e_:=(Kd.S_reads' HO_3.out).1;omega) | simpa using h_);obtain ⟨ve13_2,rfl,ge13_2⟩:=k69_openM hM13;have HP13:=Kd.S_seg hH13 (oT_ (by first | (with_reducible assumption) | assumption)) (by have h_ : (x4_1 : Int) < ((x3_1.length : Int) : Int):=oT_ (by first | (with_reducible assumption) | assumption);first | exact h_ | (have e_:=(Kd.S_reads' HO_3.out).1;omega) | simpa using h_) (seg:=[.string t194,.bool t195,.slice Ao12 t196.length co12]) (j:=0) (show 3 ≤ 3 from by decide) (x':=(⟨t194,t195,t196⟩ : S69)) (k69_mkM _ _ _ (⟨t194,t195,t196⟩ : S69) (Kd.R_mono (Kd.R_tight rfl (Kd.R_mono (ok':=fun k_=>((fun _=>True)) k_ ∧ k_ ≠ go10) (Kd.R_apart' (HO198.out) (Kd.S_typed HO_3.out) (by decide)) (fun k_ hk=>⟨trivial,fun e_=>(hk.2) (by rw [e_];rfl)⟩))) (fun _ h_=>Or.inr (h_)))) (fun _ hk=>hk) (fun k_ hk_=>((Kd.R_mono (ok':=fun k_=>((fun _=>True)) k_ ∧ k_ ≠ go10) (Kd.R_apart' (HO198.out) (Kd.S_typed HO_3.out) (by decide)) (fun k_ hk=>⟨trivial,fun e_=>(hk.2) (by rw [e_];rfl)⟩))).1 k_ hk_.symm);have hx13_0:=hcc13 0 _ rfl;(try simp only [show (k69).sz = 3 from rfl,Nat.mul_one,Nat.add_zero] at hx13_0);have hf13_0:=hfr13 0;(try simp only [show (k69).sz = 3 from rfl,Nat.mul_one,Nat.add_zero] at hf13_0);have hx13_1:=hcc13 1 _ rfl;(try simp only [show (k69).sz = 3 from rfl,Nat.mul_one,Nat.add_zero] at hx13_1);have hf13_1:=hfr13 1;(try simp only [show (k69).sz = 3 from rfl,Nat.mul_one,Nat.add_zero] at hf13_1);have hx13_2:=hcc13 2 _ rfl;(try simp only [show (k69).sz = 3 from rfl,Nat.mul_one,Nat.add_zero] at hx13_2);have hf13_2:=hfr13 2;(try simp only [show (k69).sz = 3 from rfl,Nat.mul_one,Nat.add_zero] at hf13_2);(try clear hM13);clear hcl13 hcc13 hfr13 hoki13 hH13) | ((with_reducible refine gate_store (t:=69) (p:=21) rfl ?_);refine store_event (t:=69) (p:=21) (v:=?vo_w14) (w1:=(((w11.setCell ⟨go10,(x4_1 : Int).toNat * 3,none⟩ (.string t194)).setCell ⟨go10,(x4_1 : Int).toNat * 3 + 1,none⟩ (.bool t195)).setCell ⟨go10,(x4_1 : Int).toNat * 3 + 2,none⟩ (.slice Ao12 t196.length co12))) ?hg ?ho ?hn ?hr ?_;(case ho=>rfl);(case hg=>rfl);(case hn=>rfl);(case hr=>first | (go_simp;done) | (go_simp;rfl));intro w14 hw;have hg : w11.grownBy w14 (some go10):=(by rw [hw];exact HP13.2);have hp_ : Kd.S k69 69 w14 w.heap.size (fun _=>True) (.slice (some ⟨go10,0,none⟩) x3_1.length co10) y199:=(by rw [hw,Ny199.out];exact HP13.1);clear HP13;have n0_:=aM_ (hp_);have n1_:=aM_ ((by rw [hw];exact bE_ (bE_ (bE_ (HB.out) GB10.out) GB10.out) GB10.out : Below w.heap.size w w14));clear HO_3;clear HB;clear HO198;have HO_3:=n0_;have HB:=n1_;clear n0_ n1_;clear hg hw hp_))
        go_roundg k1
        case measure=>have:=HK1.out;omega
        case rel=>exact ⟨(y199),(wrap64 (x4_1 + 1)),(by first | rfl | (simp;done) | (simp [*];done)),H', ⟨by have:=HK1.out;omega⟩,⟨by (with_reducible repeat (first | apply Kd.S_alloc | apply Kd.S_drewN | apply Kd.S_drew));exact HO_3.out⟩,⟨by exact bZ_ HB⟩⟩
       ·rw [if_neg c9] at H
        exact absurd H (by simp)
      ·rw [if_neg c7] at H
       exact absurd H (by simp)
     ·rw [if_neg c6] at H
      have c6b0 : decide (x4_1 < (l0.length : Int)) = false:=decide_eq_false c6
      clear c6
      obtain rfl:=Option.some.inj H
      go_wp2
      go_ret
      exact ⟨_,by first | rfl | (simp [errW_none,errW_some] <;> rfl) | (simp [*, errW_none,errW_some] <;> rfl),by (with_reducible repeat (first | apply Kd.S_alloc | apply Kd.S_drewN | apply Kd.S_drew));exact HO_3.out,by exact bZ_ HB⟩
  ·rw [if_neg c3] at H
   exact absurd H (by simp)
 ·rw [if_neg c2] at H
  exact absurd H (by simp)
def laws_toDef.f (k : Nat) (a0_0 : ByteArray) (l0_1 : List (S131)) (l0_2 : List (S137)) (l0_3 : List (S134)) : Option (ByteArray × (List (S82)) × (List (S85)) × (List (S69))):=(laws_toColS.f k l0_1).bind fun t203=>((laws_toByS.f k l0_2).bind fun t206=>((laws_toIndexS.f k l0_3).bind fun t209=>(some (a0_0,t203,t206,t209))))
theorem laws_toDef.mono : ∀ a0 a1 a2 a3 k,LeO (laws_toDef.f k a0 a1 a2 a3) (laws_toDef.f (k + 1) a0 a1 a2 a3):=by
 intro a0 a1 a2 a3 k
 unfold laws_toDef.f
 repeat' first
   | (with_reducible exact laws_toByS.mono _ _)
   | (with_reducible exact laws_toColS.mono _ _)
   | (with_reducible exact laws_toIndexS.mono _ _)
   | (with_reducible exact LeO.refl _)
   | (with_reducible exact LeO.none _)
   | (with_reducible refine LeO.ite ?_ ?_)
   | (with_reducible refine LeO.bind ?_ (fun _=>?_))
   | exact laws_toByS.mono _ _
   | exact laws_toColS.mono _ _
   | exact laws_toIndexS.mono _ _
   | exact LeO.none _
   | refine LeO.ite ?_ ?_
   | refine LeO.bind ?_ (fun _=>?_)
set_option maxHeartbeats 8000000 in
set_option maxRecDepth 100000 in
theorem laws_toDef.calls (k : Nat) (a0_0 : ByteArray) (A0_1 : Option Addr) (c0_1 : Nat) (l0_1 : List (S131)) (A0_2 : Option Addr) (c0_2 : Nat) (l0_2 : List (S137)) (A0_3 : Option Addr) (c0_3 : Nat) (l0_3 : List (S134)) (r1 : ByteArray) (r2 : List (S82)) (r3 : List (S85)) (r4 : List (S69)) (w : World) (hr0_1 : Kd.C k131 w A0_1 l0_1.length l0_1) (hc0_1 : l0_1.length ≤ c0_1) (hr0_2 : Kd.C k137 w A0_2 l0_2.length l0_2) (hc0_2 : l0_2.length ≤ c0_2) (hr0_3 : Kd.C k134 w A0_3 l0_3.length l0_3) (hc0_3 : l0_3.length ≤ c0_3) (h : laws_toDef.f k a0_0 l0_1 l0_2 l0_3 = some (r1,r2,r3,r4)) :
  Calls Tryd.prog 29 #[.agg #[.string a0_0,.slice A0_1 l0_1.length c0_1,.slice A0_2 l0_2.length c0_2,.slice A0_3 l0_3.length c0_3]] w fun e w'=>∃ v1_ v2_ v3_ : Value,e = .returned (.agg #[.string r1,v1_,v2_,v3_]) ∧ Kd.R k82 82 w' w.heap.size (fun _=>True) v1_ r2 ∧ Kd.R k85 85 w' w.heap.size (fun _=>True) v2_ r3 ∧ Kd.S k69 69 w' w.heap.size (fun k_=>some k_ ≠ (v2_ : Value).ownBlock) v3_ r4 ∧ Below w.heap.size w w':=by
 have hu46:=Tryd.underlying46
 have hu35:=Tryd.underlying35
 have HR0_1:=aM_ hr0_1
 have HC0_1:=aM_ hc0_1
 clear hr0_1 hc0_1
 have HR0_2:=aM_ hr0_2
 have HC0_2:=aM_ hc0_2
 clear hr0_2 hc0_2
 have HR0_3:=aM_ hr0_3
 have HC0_3:=aM_ hc0_3
 clear hr0_3 hc0_3
 have HB:=aM_ (Below.refl w.heap.size w)
 have H : ((laws_toColS.f k l0_1).bind fun t203=>((laws_toByS.f k l0_2).bind fun t206=>((laws_toIndexS.f k l0_3).bind fun t209=>(some (a0_0,t203,t206,t209))))) = some (r1,r2,r3,r4):=h
 clear h
 replace H:=oB_ H
 obtain ⟨t203,A20,H⟩:=H
 replace H : ((laws_toByS.f k l0_2).bind fun t206=>((laws_toIndexS.f k l0_3).bind fun t209=>(some (a0_0,t203,t206,t209)))) = some (r1,r2,r3,r4):=H
 have A2:=aM_ A20
 clear A20
 replace H:=oB_ H
 obtain ⟨t206,A30,H⟩:=H
 replace H : ((laws_toIndexS.f k l0_3).bind fun t209=>(some (a0_0,t203,t206,t209))) = some (r1,r2,r3,r4):=H
 have A3:=aM_ A30
 clear A30
 replace H:=oB_ H
 obtain ⟨t209,A40,H⟩:=H
 replace H : (some (a0_0,t203,t206,t209)) = some (r1,r2,r3,r4):=H
 have A4:=aM_ A40
 clear A40
 simp only [Option.some.injEq,Prod.mk.injEq] at H
 obtain ⟨rfl,rfl,rfl,rfl⟩:=H
 go_enter Tryd.func29,Tryd.ntmps29
 go_wp2_with (first | ((with_reducible refine gate_dst (N:=1) rfl ?_);refine box_event ?hg (N:=1) ?hd (cs:=#[.string a0_0,.slice A0_1 l0_1.length c0_1,.slice A0_2 l0_2.length c0_2,.slice A0_3 l0_3.length c0_3]) (t:=46) ?hr ?_;(case hd=>rfl);(case hg=>rfl);(case hr=>first | (go_simp;done) | (go_simp;rfl));intro gb200 hg w5 hbox hb;have n0_:=aM_ (bT_ (by exact bZ_ HB) hb);have n1_:=aM_ (hbox);have n2_:=aM_ ((by rw [hg];exact (bS_ (by exact bZ_ HB)) : w.heap.size ≤ gb200));have n3_:=aM_ ((by rw [hg];exact (bS_ (by exact bZ_ HB)) : w.heap.size ≤ gb200));clear HB;have HB:=n0_;have BK200:=n1_;have GW200:=n2_;have GE200:=n3_;clear n0_ n1_ n2_ n3_;clear hb hbox hg) | ((with_reducible refine gate_dst (N:=2) rfl ?_);refine box_event ?hg (N:=2) ?hd (cs:=#[.string (⟨#[]⟩ : ByteArray),.slice none 0 0,.slice none 0 0,.slice none 0 0]) (t:=35) ?hr ?_;(case hd=>rfl);(case hg=>rfl);(case hr=>first | (go_simp;done) | (go_simp;rfl));intro gb201 hg w6 hbox hb;have n0_:=aM_ (blk_below (g:=gb200) (o:=.cells #[.string a0_0,.slice A0_1 l0_1.length c0_1,.slice A0_2 l0_2.length c0_2,.slice A0_3 l0_3.length c0_3] 46 (0,0)) (by exact kZ_ BK200) hb);have n1_:=aM_ (bT_ (by exact bZ_ HB) hb);have n2_:=aM_ (hbox);have n3_:=aM_ ((by rw [hg];exact (bS_ (by exact bZ_ HB)) : w.heap.size ≤ gb201));have n4_:=aM_ ((by rw [hg];exact (bS_ (by exact bZ_ HB)) : w.heap.size ≤ gb201));have n5_:=aM_ ((by rw [hg];exact Nat.ne_of_lt (blk_lt (g:=gb200) (o:=.cells #[.string a0_0,.slice A0_1 l0_1.length c0_1,.slice A0_2 l0_2.length c0_2,.slice A0_3 l0_3.length c0_3] 46 (0,0)) (by exact kZ_ BK200)) : gb200 ≠ gb201));have n6_:=aM_ ((by rw [hg];exact Nat.ne_of_gt (blk_lt (g:=gb200) (o:=.cells #[.string a0_0,.slice A0_1 l0_1.length c0_1,.slice A0_2 l0_2.length c0_2,.slice A0_3 l0_3.length c0_3] 46 (0,0)) (by exact kZ_ BK200)) : gb201 ≠ gb200));clear BK200;clear HB;have BK200:=n0_;have HB:=n1_;have BK201:=n2_;have GW201:=n3_;have GE201:=n4_;have NB200_201:=n5_;have NB201_200:=n6_;clear n0_ n1_ n2_ n3_ n4_ n5_ n6_;clear hb hbox hg) | ((with_reducible refine gate_dst (N:=3) rfl ?_);refine box_event ?hg (N:=3) ?hd (cs:=#[.string (⟨#[]⟩ : ByteArray),.slice none 0 0,.slice none 0 0,.slice none 0 0]) (t:=35) ?hr ?_;(case hd=>rfl);(case hg=>rfl);(case hr=>first | (go_simp;done) | (go_simp;rfl));intro gb202 hg w7 hbox hb;have n0_:=aM_ (blk_below (g:=gb200) (o:=.cells #[.string a0_0,.slice A0_1 l0_1.length c0_1,.slice A0_2 l0_2.length c0_2,.slice A0_3 l0_3.length c0_3] 46 (0,0)) (by exact kZ_ BK200) hb);have n1_:=aM_ (blk_below (g:=gb201) (o:=.cells #[.string (⟨#[]⟩ : ByteArray),.slice none 0 0,.slice none 0 0,.slice none 0 0] 35 (0,0)) (by exact kZ_ BK201) hb);have n2_:=aM_ (bT_ (by exact bZ_ HB) hb);have n3_:=aM_ (hbox);have n4_:=aM_ ((by rw [hg];exact (bS_ (by exact bZ_ HB)) : w.heap.size ≤ gb202));have n5_:=aM_ ((by rw [hg];exact (bS_ (by exact bZ_ HB)) : w.heap.size ≤ gb202));have n6_:=aM_ ((by rw [hg];exact Nat.ne_of_lt (blk_lt (g:=gb200) (o:=.cells #[.string a0_0,.slice A0_1 l0_1.length c0_1,.slice A0_2 l0_2.length c0_2,.slice A0_3 l0_3.length c0_3] 46 (0,0)) (by exact kZ_ BK200)) : gb200 ≠ gb202));have n7_:=aM_ ((by rw [hg];exact Nat.ne_of_gt (blk_lt (g:=gb200) (o:=.cells #[.string a0_0,.slice A0_1 l0_1.length c0_1,.slice A0_2 l0_2.length c0_2,.slice A0_3 l0_3.length c0_3] 46 (0,0)) (by exact kZ_ BK200)) : gb202 ≠ gb200));have n8_:=aM_ ((by rw [hg];exact Nat.ne_of_lt (blk_lt (g:=gb201) (o:=.cells #[.string (⟨#[]⟩ : ByteArray),.slice none 0 0,.slice none 0 0,.slice none 0 0] 35 (0,0)) (by exact kZ_ BK201)) : gb201 ≠ gb202));have n9_:=aM_ ((by rw [hg];exact Nat.ne_of_gt (blk_lt (g:=gb201) (o:=.cells #[.string (⟨#[]⟩ : ByteArray),.slice none 0 0,.slice none 0 0,.slice none 0 0] 35 (0,0)) (by exact kZ_ BK201)) : gb202 ≠ gb201));clear BK200;clear BK201;clear HB;have BK200:=n0_;have BK201:=n1_;have HB:=n2_;have BK202:=n3_;have GW202:=n4_;have GE202:=n5_;have NB200_202:=n6_;have NB202_200:=n7_;have NB201_202:=n8_;have NB202_201:=n9_;clear n0_ n1_ n2_ n3_ n4_ n5_ n6_ n7_ n8_ n9_;clear hb hbox hg;have hnb8:=NB200_201.out;have hnc8:=NB201_200.out;have hnb9:=NB200_202.out;have hnc9:=NB202_200.out;have hcz10_0 : w7.cell? ⟨gb200,0,none⟩ = some (.string a0_0):=(kC_ BK200.out 0).trans rfl;have hcz10_1 : w7.cell? ⟨gb200,1,none⟩ = some (.slice A0_1 l0_1.length c0_1):=(kC_ BK200.out 1).trans rfl;have hcz10_2 : w7.cell? ⟨gb200,2,none⟩ = some (.slice A0_2 l0_2.length c0_2):=(kC_ BK200.out 2).trans rfl;have hcz10_3 : w7.cell? ⟨gb200,3,none⟩ = some (.slice A0_3 l0_3.length c0_3):=(kC_ BK200.out 3).trans rfl;have hfz10_0:=kF_ BK200.out 0;have hfz10_1:=kF_ BK200.out 1;have hfz10_2:=kF_ BK200.out 2;have hfz10_3:=kF_ BK200.out 3;have hnb11:=NB202_201.out;have hnc11:=NB201_202.out;have hcz12_0 : w7.cell? ⟨gb202,0,none⟩ = some (.string (⟨#[]⟩ : ByteArray)):=(kC_ BK202.out 0).trans rfl;have hcz12_1 : w7.cell? ⟨gb202,1,none⟩ = some (.slice none 0 0):=(kC_ BK202.out 1).trans rfl;have hcz12_2 : w7.cell? ⟨gb202,2,none⟩ = some (.slice none 0 0):=(kC_ BK202.out 2).trans rfl;have hcz12_3 : w7.cell? ⟨gb202,3,none⟩ = some (.slice none 0 0):=(kC_ BK202.out 3).trans rfl;have hfz12_0:=kF_ BK202.out 0;have hfz12_1:=kF_ BK202.out 1;have hfz12_2:=kF_ BK202.out 2;have hfz12_3:=kF_ BK202.out 3) | ((with_reducible refine gate_callee (f:=73) rfl ?_);refine goesL_ (some 9) rfl rfl Tryd.func73 (by kernel_rfl) rfl #[.slice A0_1 l0_1.length c0_1] rfl (by (try simp only [mA_,mC_,mN_]);first | done | rfl | (simp only [lD_,lT_];rfl)) ?_;(with_reducible refine (laws_toColS.calls k _ _ l0_1 t203 _ ?side1 ?side2 A2.out).mono ?_);(case side1=>exact Kd.C_below HR0_1.out (by exact bZ_ HB));(case side2=>exact HC0_1.out);rintro e w13 ⟨v204,rfl,ho0,hb⟩;refine ⟨_,rfl,?_⟩;have n0_:=aM_ (Kd.R_lower ho0 (bS_ (by exact bZ_ HB)));have n1_:=aM_ (blk_below (g:=gb200) (o:=.cells #[.string a0_0,.slice A0_1 l0_1.length c0_1,.slice A0_2 l0_2.length c0_2,.slice A0_3 l0_3.length c0_3] 46 (0,0)) (by exact kW_ BK200) hb);have n2_:=aM_ (blk_below (g:=gb201) (o:=.cells #[.string (⟨#[]⟩ : ByteArray),.slice none 0 0,.slice none 0 0,.slice none 0 0] 35 (0,0)) (by exact kW_ BK201) hb);have n3_:=aM_ (blk_below (g:=gb202) (o:=.cells #[.string a0_0,.slice none 0 0,.slice none 0 0,.slice none 0 0] 35 (0,0)) (by (with_reducible repeat (first | refine kN_ ?_ _ | refine kD_ ?_ | refine kA_ ?_ _));refine kP_ (cs:=#[.string (⟨#[]⟩ : ByteArray),.slice none 0 0,.slice none 0 0,.slice none 0 0]) ?_ 0 _ rfl;exact kZ_ BK202) hb);have n4_:=aM_ (bT_ (by exact bZ_ HB) hb);clear BK200;clear BK201;clear BK202;clear HB;have HO205:=n0_;have BK200:=n1_;have BK201:=n2_;have BK202:=n3_;have HB:=n4_;clear n0_ n1_ n2_ n3_ n4_;(try clear hb);(try clear hb2);(try clear hk);(try clear hi);(try clear ho0);obtain ⟨Ao14,co14,eo14⟩:=Kd.R_slice HO205.out;subst eo14;have hcz15_0 : w13.cell? ⟨gb202,0,none⟩ = some (.string a0_0):=(kC_ BK202.out 0).trans rfl;have hcz15_1 : w13.cell? ⟨gb202,1,none⟩ = some (.slice none 0 0):=(kC_ BK202.out 1).trans rfl;have hcz15_2 : w13.cell? ⟨gb202,2,none⟩ = some (.slice none 0 0):=(kC_ BK202.out 2).trans rfl;have hcz15_3 : w13.cell? ⟨gb202,3,none⟩ = some (.slice none 0 0):=(kC_ BK202.out 3).trans rfl;have hfz15_0:=kF_ BK202.out 0;have hfz15_1:=kF_ BK202.out 1;have hfz15_2:=kF_ BK202.out 2;have hfz15_3:=kF_ BK202.out 3;have hcz16_0 : w13.cell? ⟨gb200,0,none⟩ = some (.string a0_0):=(kC_ BK200.out 0).trans rfl;have hcz16_1 : w13.cell? ⟨gb200,1,none⟩ = some (.slice A0_1 l0_1.length c0_1):=(kC_ BK200.out 1).trans rfl;have hcz16_2 : w13.cell? ⟨gb200,2,none⟩ = some (.slice A0_2 l0_2.length c0_2):=(kC_ BK200.out 2).trans rfl;have hcz16_3 : w13.cell? ⟨gb200,3,none⟩ = some (.slice A0_3 l0_3.length c0_3):=(kC_ BK200.out 3).trans rfl;have hfz16_0:=kF_ BK200.out 0;have hfz16_1:=kF_ BK200.out 1;have hfz16_2:=kF_ BK200.out 2;have hfz16_3:=kF_ BK200.out 3) | ((with_reducible refine gate_callee (f:=74) rfl ?_);refine goesL_ (some 13) rfl rfl Tryd.func74 (by kernel_rfl) rfl #[.slice A0_2 l0_2.length c0_2] rfl (by (try simp only [mA_,mC_,mN_]);first | done | rfl | (simp only [lD_,lT_];rfl)) ?_;(with_reducible refine (laws_toByS.calls k _ _ l0_2 t206 _ ?side1 ?side2 A3.out).mono ?_);(case side1=>exact Kd.C_below HR0_2.out (by exact bZ_ HB));(case side2=>exact HC0_2.out);rintro e w17 ⟨v207,rfl,ho0,hb⟩;refine ⟨_,rfl,?_⟩;have n0_:=aM_ (Kd.R_below (by (with_reducible repeat (first | apply rA_ | apply rN_ | apply rD_));exact (Kd.R_mono (Kd.R_far (p:=⟨gb202,1,none⟩) (Kd.R_types HO205.out BK202.out (by decide)) (fun _ hk=>hk.2) (.slice Ao14 t203.length co14)) (fun _ h_=>h_.1))) hb);have n1_:=aM_ (Kd.R_lower ho0 (bS_ (by exact bZ_ HB)));have n2_:=aM_ (blk_below (g:=gb200) (o:=.cells #[.string a0_0,.slice A0_1 l0_1.length c0_1,.slice A0_2 l0_2.length c0_2,.slice A0_3 l0_3.length c0_3] 46 (0,0)) (by exact kW_ BK200) hb);have n3_:=aM_ (blk_below (g:=gb201) (o:=.cells #[.string (⟨#[]⟩ : ByteArray),.slice none 0 0,.slice none 0 0,.slice none 0 0] 35 (0,0)) (by exact kW_ BK201) hb);have n4_:=aM_ (blk_below (g:=gb202) (o:=.cells #[.string a0_0,.slice Ao14 t203.length co14,.slice none 0 0,.slice none 0 0] 35 (0,0)) (by (with_reducible repeat (first | refine kN_ ?_ _ | refine kD_ ?_ | refine kA_ ?_ _));refine kP_ (cs:=#[.string a0_0,.slice none 0 0,.slice none 0 0,.slice none 0 0]) ?_ 1 _ rfl;exact kZ_ BK202) hb);have n5_:=aM_ (bT_ (by exact bZ_ HB) hb);clear HO205;clear BK200;clear BK201;clear BK202;clear HB;have HO205:=n0_;have HO208:=n1_;have BK200:=n2_;have BK201:=n3_;have BK202:=n4_;have HB:=n5_;clear n0_ n1_ n2_ n3_ n4_ n5_;(try clear hb);(try clear hb2);(try clear hk);(try clear hi);(try clear ho0);obtain ⟨Ao18,co18,eo18⟩:=Kd.R_slice HO208.out;subst eo18;have hcz19_0 : w17.cell? ⟨gb202,0,none⟩ = some (.string a0_0):=(kC_ BK202.out 0).trans rfl;have hcz19_1 : w17.cell? ⟨gb202,1,none⟩ = some (.slice Ao14 t203.length co14):=(kC_ BK202.out 1).trans rfl;have hcz19_2 : w17.cell? ⟨gb202,2,none⟩ = some (.slice none 0 0):=(kC_ BK202.out 2).trans rfl;have hcz19_3 : w17.cell? ⟨gb202,3,none⟩ = some (.slice none 0 0):=(kC_ BK202.out 3).trans rfl;have hfz19_0:=kF_ BK202.out 0;have hfz19_1:=kF_ BK202.out 1;have hfz19_2:=kF_ BK202.out 2;have hfz19_3:=kF_ BK202.out 3;have hcz20_0 : w17.cell? ⟨gb200,0,none⟩ = some (.string a0_0):=(kC_ BK200.out 0).trans rfl;have hcz20_1 : w17.cell? ⟨gb200,1,none⟩ = some (.slice A0_1 l0_1.length c0_1):=(kC_ BK200.out 1).trans rfl;have hcz20_2 : w17.cell? ⟨gb200,2,none⟩ = some (.slice A0_2 l0_2.length c0_2):=(kC_ BK200.out 2).trans rfl;have hcz20_3 : w17.cell? ⟨gb200,3,none⟩ = some (.slice A0_3 l0_3.length c0_3):=(kC_ BK200.out 3).trans rfl;have hfz20_0:=kF_ BK200.out 0;have hfz20_1:=kF_ BK200.out 1;have hfz20_2:=kF_ BK200.out 2;have hfz20_3:=kF_ BK200.out 3) | ((with_reducible refine gate_callee (f:=75) rfl ?_);refine goesL_ (some 17) rfl rfl Tryd.func75 (by kernel_rfl) rfl #[.slice A0_3 l0_3.length c0_3] rfl (by (try simp only [mA_,mC_,mN_]);first | done | rfl | (simp only [lD_,lT_];rfl)) ?_;(with_reducible refine (laws_toIndexS.calls k _ _ l0_3 t209 _ ?side1 ?side2 A4.out).mono ?_);(case side1=>exact Kd.C_below HR0_3.out (by exact bZ_ HB));(case side2=>exact HC0_3.out);rintro e w21 ⟨v210,rfl,ho0,hb⟩;refine ⟨_,rfl,?_⟩;have n0_:=aM_ (Kd.R_below (by (with_reducible repeat (first | apply rA_ | apply rN_ | apply rD_));exact (Kd.R_mono (Kd.R_far (p:=⟨gb202,2,none⟩) (Kd.R_types HO205.out BK202.out (by decide)) (fun _ hk=>hk.2) (.slice Ao18 t206.length co18)) (fun _ h_=>h_.1))) hb);have n1_:=aM_ (Kd.R_below (by (with_reducible repeat (first | apply rA_ | apply rN_ | apply rD_));exact (Kd.R_mono (Kd.R_far (p:=⟨gb202,2,none⟩) (Kd.R_types HO208.out BK202.out (by decide)) (fun _ hk=>hk.2) (.slice Ao18 t206.length co18)) (fun _ h_=>h_.1))) hb);have n2_:=aM_ (Kd.S_lower (Kd.S_new' ho0 (Kd.R_lt (by (with_reducible repeat (first | apply rA_ | apply rN_ | apply rD_));exact (Kd.R_mono (Kd.R_far (p:=⟨gb202,2,none⟩) (Kd.R_types HO208.out BK202.out (by decide)) (fun _ hk=>hk.2) (.slice Ao18 t206.length co18)) (fun _ h_=>h_.1))))) (bS_ (by exact bZ_ HB)));have n3_:=aM_ (blk_below (g:=gb200) (o:=.cells #[.string a0_0,.slice A0_1 l0_1.length c0_1,.slice A0_2 l0_2.length c0_2,.slice A0_3 l0_3.length c0_3] 46 (0,0)) (by exact kW_ BK200) hb);have n4_:=aM_ (blk_below (g:=gb201) (o:=.cells #[.string (⟨#[]⟩ : ByteArray),.slice none 0 0,.slice none 0 0,.slice none 0 0] 35 (0,0)) (by exact kW_ BK201) hb);have n5_:=aM_ (blk_below (g:=gb202) (o:=.cells #[.string a0_0,.slice Ao14 t203.length co14,.slice Ao18 t206.length co18,.slice none 0 0] 35 (0,0)) (by (with_reducible repeat (first | refine kN_ ?_ _ | refine kD_ ?_ | refine kA_ ?_ _));refine kP_ (cs:=#[.string a0_0,.slice Ao14 t203.length co14,.slice none 0 0,.slice none 0 0]) ?_ 2 _ rfl;exact kZ_ BK202) hb);have n6_:=aM_ (bT_ (by exact bZ_ HB) hb);clear HO205;clear HO208;clear BK200;clear BK201;clear BK202;clear HB;have HO205:=n0_;have HO208:=n1_;have HO211:=n2_;have BK200:=n3_;have BK201:=n4_;have BK202:=n5_;have HB:=n6_;clear n0_ n1_ n2_ n3_ n4_ n5_ n6_;(try clear hb);(try clear hb2);(try clear hk);(try clear hi);(try clear ho0);obtain ⟨Ao22,co22,eo22⟩:=Kd.S_slice HO211.out;subst eo22;have hcz23_0 : w21.cell? ⟨gb202,0,none⟩ = some (.string a0_0):=(kC_ BK202.out 0).trans rfl;have hcz23_1 : w21.cell? ⟨gb202,1,none⟩ = some (.slice Ao14 t203.length co14):=(kC_ BK202.out 1).trans rfl;have hcz23_2 : w21.cell? ⟨gb202,2,none⟩ = some (.slice Ao18 t206.length co18):=(kC_ BK202.out 2).trans rfl;have hcz23_3 : w21.cell? ⟨gb202,3,none⟩ = some (.slice none 0 0):=(kC_ BK202.out 3).trans rfl;have hfz23_0:=kF_ BK202.out 0;have hfz23_1:=kF_ BK202.out 1;have hfz23_2:=kF_ BK202.out 2;have hfz23_3:=kF_ BK202.out 3;have hcz24_0 : w21.cell? ⟨gb201,0,none⟩ = some (.string (⟨#[]⟩ : ByteArray)):=(kC_ BK201.out 0).trans rfl;have hcz24_1 : w21.cell? ⟨gb201,1,none⟩ = some (.slice none 0 0):=(kC_ BK201.out 1).trans rfl;have hcz24_2 : w21.cell? ⟨gb201,2,none⟩ = some (.slice none 0 0):=(kC_ BK201.out 2).trans rfl;have hcz24_3 : w21.cell? ⟨gb201,3,none⟩ = some (.slice none 0 0):=(kC_ BK201.out 3).trans rfl;have hfz24_0:=kF_ BK201.out 0;have hfz24_1:=kF_ BK201.out 1;have hfz24_2:=kF_ BK201.out 2;have hfz24_3:=kF_ BK201.out 3))
 refine bodyPost_ret (results_cell_row rfl _ _ gb201 35 #[.string a0_0,.slice Ao14 t203.length co14,.slice Ao18 t206.length co18,.slice Ao22 t209.length co22] (0,0) _ rfl (by (with_reducible repeat (first | refine kN_ ?_ _ | refine kD_ ?_ | refine kA_ ?_ _));refine kP_ (cs:=#[.string a0_0,.slice Ao14 t203.length co14,.slice Ao18 t206.length co18,.slice none 0 0]) ?_ 3 _ rfl;(with_reducible repeat (first | refine kN_ ?_ _ | refine kD_ ?_ | refine kA_ ?_ _));refine kP_ (cs:=#[.string a0_0,.slice Ao14 t203.length co14,.slice none 0 0,.slice none 0 0]) ?_ 2 _ rfl;(with_reducible repeat (first | refine kN_ ?_ _ | refine kD_ ?_ | refine kA_ ?_ _));refine kP_ (cs:=#[.string a0_0,.slice none 0 0,.slice none 0 0,.slice none 0 0]) ?_ 1 _ rfl;(with_reducible repeat (first | refine kN_ ?_ _ | refine kD_ ?_ | refine kA_ ?_ _));refine kP_ (cs:=#[.string (⟨#[]⟩ : ByteArray),.slice none 0 0,.slice none 0 0,.slice none 0 0]) ?_ 0 _ rfl;exact kW_ BK201) Tryd.underlying35 rfl (by kernel_rfl)) rfl ?_
 exact ⟨_,_,_,by first | rfl | (simp [errW_none,errW_some] <;> rfl) | (simp [*, errW_none,errW_some] <;> rfl),by (with_reducible repeat (first | apply rA_ | apply rN_ | apply rD_));exact Kd.R_mono (Kd.R_far (p:=⟨gb201,3,none⟩) (Kd.R_far (p:=⟨gb201,2,none⟩) (Kd.R_far (p:=⟨gb201,1,none⟩) (Kd.R_far (p:=⟨gb201,0,none⟩) (Kd.R_far (p:=⟨gb202,3,none⟩) (Kd.R_types (Kd.R_types HO205.out BK202.out (by decide)) BK201.out (by decide)) (fun _ hk=>hk.1.2) (.slice Ao22 t209.length co22)) (fun _ hk=>hk.2) (.string a0_0)) (fun _ hk=>hk.2) (.slice Ao14 t203.length co14)) (fun _ hk=>hk.2) (.slice Ao18 t206.length co18)) (fun _ hk=>hk.2) (.slice Ao22 t209.length co22)) (fun _ hk=>trivial),by (with_reducible repeat (first | apply rA_ | apply rN_ | apply rD_));exact Kd.R_mono (Kd.R_far (p:=⟨gb201,3,none⟩) (Kd.R_far (p:=⟨gb201,2,none⟩) (Kd.R_far (p:=⟨gb201,1,none⟩) (Kd.R_far (p:=⟨gb201,0,none⟩) (Kd.R_far (p:=⟨gb202,3,none⟩) (Kd.R_types (Kd.R_types HO208.out BK202.out (by decide)) BK201.out (by decide)) (fun _ hk=>hk.1.2) (.slice Ao22 t209.length co22)) (fun _ hk=>hk.2) (.string a0_0)) (fun _ hk=>hk.2) (.slice Ao14 t203.length co14)) (fun _ hk=>hk.2) (.slice Ao18 t206.length co18)) (fun _ hk=>hk.2) (.slice Ao22 t209.length co22)) (fun _ hk=>trivial),by (with_reducible repeat (first | apply Kd.S_alloc | apply Kd.S_drewN | apply Kd.S_drew));exact Kd.S_mono (Kd.S_far (p:=⟨gb201,3,none⟩) (Kd.S_far (p:=⟨gb201,2,none⟩) (Kd.S_far (p:=⟨gb201,1,none⟩) (Kd.S_far (p:=⟨gb201,0,none⟩) (Kd.S_far (p:=⟨gb202,3,none⟩) (Kd.S_types (Kd.S_types HO211.out BK202.out (by decide)) BK201.out (by decide)) (fun _ hk=>hk.1.2) (.slice Ao22 t209.length co22)) (fun _ hk=>hk.2) (.string a0_0)) (fun _ hk=>hk.2) (.slice Ao14 t203.length co14)) (fun _ hk=>hk.2) (.slice Ao18 t206.length co18)) (fun _ hk=>hk.2) (.slice Ao22 t209.length co22)) (fun _ hk=>hk.1.1.2),by exact bZ_ HB⟩
def laws_toDefS.l0 : Nat → List (S46) → List (S35) → Int → Option ((List (S35)))
 | 0,_,_,_=>none
 | k + 1,x0,x3,x4=>if x4 < (x0.length : Int) then (if 0 ≤ x4 then ((laws_toDef.f k ((rd_T46 x0 x4).f0) ((rd_T46 x0 x4).f1) ((rd_T46 x0 x4).f2) ((rd_T46 x0 x4).f3)).bind fun bt216=>(if x4 < (x3.length : Int) then (laws_toDefS.l0 k x0 (x3.set (x4 : Int).toNat (⟨bt216.1,bt216.2.1,bt216.2.2.1,bt216.2.2.2⟩ : S35)) (wrap64 (x4 + 1))) else (none))) else (none)) else (some x3)
def laws_toDefS.f (k : Nat) (l0 : List (S46)) : Option ((List (S35))):=if 0 ≤ (l0.length : Int) then (if ((l0.length : Int) : Int).toNat ≤ 3198579280802 then (laws_toDefS.l0 k l0 (List.replicate ((l0.length : Int) : Int).toNat z35) 0) else (none)) else (none)
theorem laws_toDefS.mono_l : ∀ k,(∀ y0 y1 y2,LeO (laws_toDefS.l0 k y0 y1 y2) (laws_toDefS.l0 (k + 1) y0 y1 y2))
 | 0=>fun _ _ _ r h=>by simp [laws_toDefS.l0] at h
 | k + 1=>by
  have ih0:=laws_toDefS.mono_l k
  ·intro y0 y1 y2
   unfold laws_toDefS.l0
   repeat' first
   | (with_reducible exact ih0 _ _ _)
   | (with_reducible exact laws_toDef.mono _ _ _ _ _)
   | (with_reducible exact LeO.refl _)
   | (with_reducible exact LeO.none _)
   | (with_reducible refine LeO.ite ?_ ?_)
   | (with_reducible refine LeO.bind ?_ (fun _=>?_))
   | exact ih0 _ _ _
   | exact laws_toDef.mono _ _ _ _ _
   | exact LeO.none _
   | refine LeO.ite ?_ ?_
   | refine LeO.bind ?_ (fun _=>?_)
theorem laws_toDefS.mono : ∀ a0 k,LeO (laws_toDefS.f k a0) (laws_toDefS.f (k + 1) a0):=by
 intro a0 k
 have ih0:=laws_toDefS.mono_l k
 unfold laws_toDefS.f
 repeat' first
   | (with_reducible exact ih0 _ _ _)
   | (with_reducible exact laws_toDef.mono _ _ _ _ _)
   | (with_reducible exact LeO.refl _)
   | (with_reducible exact LeO.none _)
   | (with_reducible refine LeO.ite ?_ ?_)
   | (with_reducible refine LeO.bind ?_ (fun _=>?_))
   | exact ih0 _ _ _
   | exact laws_toDef.mono _ _ _ _ _
   | exact LeO.none _
   | refine LeO.ite ?_ ?_
   | refine LeO.bind ?_ (fun _=>?_)
set_option maxHeartbeats 8000000 in
set_option maxRecDepth 100000 in
theorem laws_toDefS.calls (k : Nat) (A0 : Option Addr) (c0 : Nat) (l0 : List (S46)) (r : List (S35)) (w : World) (hr0 : Kd.C k46 w A0 l0.length l0) (hc0 : l0.length ≤ c0) (h : laws_toDefS.f k l0 = some r) :
  Calls Tryd.prog 16 #[.slice A0 l0.length c0] w fun e w'=>∃ v0_ : Value,e = .returned (v0_) ∧ Kd.R k35 35 w' w.heap.size (fun _=>True) v0_ r ∧ Below w.heap.size w w':=by
 have hu46:=Tryd.underlying46
 have hu35:=Tryd.underlying35
 have HR0:=aM_ hr0
 have HC0:=aM_ hc0
 clear hr0 hc0
 have HB:=aM_ (Below.refl w.heap.size w)
 have H : (if 0 ≤ (l0.length : Int) then (if ((l0.length : Int) : Int).toNat ≤ 3198579280802 then (laws_toDefS.l0 k l0 (List.replicate ((l0.length : Int) : Int).toNat z35) 0) else (none)) else (none)) = some r:=h
 clear h
 by_cases c2 : 0 ≤ (l0.length : Int)
 ·rw [if_pos c2] at H
  have c2b0:=eq_true c2
  have c2b1 : decide (0 ≤ (l0.length : Int)) = true:=decide_eq_true c2
  clear c2
  by_cases c3 : ((l0.length : Int) : Int).toNat ≤ 3198579280802
  ·rw [if_pos c3] at H
   have c3b0:=eq_true c3
   have c3b1 : decide (((l0.length : Int) : Int).toNat ≤ 3198579280802) = true:=decide_eq_true c3
   clear c3
   obtain ⟨y212,hy212⟩ : ∃ y_ : List (S35),y_ = (List.replicate ((l0.length : Int) : Int).toNat z35):=⟨_,rfl⟩
   replace H : (laws_toDefS.l0 k l0 y212 0) = some r:=by first | (rw [hy212];with_reducible exact H) | (have H2_:=(Option.bind_some _ _).symm.trans H;rw [hy212];with_reducible exact H2_) | (have H2_:=(Option.bind_some _ _).symm.trans H;with_reducible exact H2_) | with_reducible exact H | (rw [hy212];exact H) | exact H
   have Ny212:=aM_ hy212
   clear hy212
   have H':=aM_ H
   clear H
   go_enter Tryd.func16,Tryd.ntmps16
   go_wp2_with (first | ((with_reducible refine gate_dst (N:=7) rfl ?_);refine Kd.R_make k35 _ 35 rfl (N:=7) rfl 25 _ _ rfl (l0.length : Int) rfl rfl Tryd.underlying25 (.agg #[(.string ⟨#[]⟩),(.slice none 0 0),(.slice none 0 0),(.slice none 0 0)]) 88 info35 rfl (by decide) (by omega) z35 (ok:=fun _=>True) (okp:=fun _=>True) (k35_mkM _ _ _ z35 (Kd.R_nil _ _ _ _ _) (Kd.R_nil _ _ _ _ _) (Kd.R_nil _ _ _ _ _)) (fun _ hk=>hk) trivial (oT_ (by first | (with_reducible assumption) | assumption)) (Nat.le_trans (Nat.mul_le_mul_right _ (oT_ (by first | (with_reducible assumption) | assumption) : (l0.length : Int).toNat ≤ 3198579280802)) (by omega)) (Below.refl _ _) (Nat.le_refl _) ?_;intro v213 w4 ho5 hb hg_ hnew_;clear hg_ hnew_;(first | rw [← Ny212.out] at ho5 | (simp only [Int.reduceToNat] at ho5;rw [← Ny212.out] at ho5));have n0_:=aM_ (Kd.R_lower ho5 (bS_ (by exact bZ_ HB)));have n1_:=aM_ (bT_ (by exact bZ_ HB) hb);clear HB;have HO214:=n0_;have HB:=n1_;clear n0_ n1_;clear hb ho5))
   (try simp only [Act.put,sI_,sS_,sZ_])
   go_loopg [4] k (fun kq v4 w'=>∃ (x3_1 : List (S35)) (x4_1 : Int),v4 = .int .i64 x4_1 ∧ Aside0 (laws_toDefS.l0 kq l0 x3_1 x4_1 = some r) ∧ Aside0 (kq ≤ k) ∧ Aside0 (Kd.R k35 35 w' w.heap.size (fun _=>True) v213 x3_1) ∧ Aside0 (Below w.heap.size w w'))
   case atStart=>exact ⟨(y212),(0),(by first | rfl | (simp;done) | (simp [*];done)),H', ⟨Nat.le_refl _⟩,⟨by exact rZ_ HO214⟩,⟨by exact bZ_ HB⟩⟩
   case round =>
    clear H'
    try clear c1
    try clear c2
    try clear c2b0
    try clear c2b1
    try clear p2
    try clear c3
    try clear c3b0
    try clear c3b1
    obtain ⟨x3_1,x4_1,rfl,HA,HK1,HO_3,HB⟩:=hrel
    cases gk with
    | zero=>exact absurd HA.out (by simp [laws_toDefS.l0])
    | succ k1 =>
     have H:=HA.out
     clear HA
     simp only [laws_toDefS.l0] at H
     by_cases c6 : x4_1 < (l0.length : Int)
     ·rw [if_pos c6] at H
      have c6b0 : decide (x4_1 < (l0.length : Int)) = true:=decide_eq_true c6
      clear c6
      by_cases c7 : 0 ≤ x4_1
      ·rw [if_pos c7] at H
       have c7b0 : decide (0 ≤ x4_1) = true:=decide_eq_true c7
       clear c7
       replace H:=oB_ H
       obtain ⟨⟨t216,t217,t220,t223⟩,A80,H⟩:=H
       replace H : (if x4_1 < (x3_1.length : Int) then (laws_toDefS.l0 k1 l0 (x3_1.set (x4_1 : Int).toNat (⟨t216,t217,t220,t223⟩ : S35)) (wrap64 (x4_1 + 1))) else (none)) = some r:=H
       have A8:=aM_ A80
       clear A80
       by_cases c9 : x4_1 < (x3_1.length : Int)
       ·rw [if_pos c9] at H
        have c9b0 : decide (x4_1 < (x3_1.length : Int)) = true:=decide_eq_true c9
        clear c9
        obtain ⟨y226,hy226⟩ : ∃ y_ : List (S35),y_ = (x3_1.set (x4_1 : Int).toNat (⟨t216,t217,t220,t223⟩ : S35)):=⟨_,rfl⟩
        replace H : (laws_toDefS.l0 k1 l0 y226 (wrap64 (x4_1 + 1))) = some r:=by first | (rw [hy226];with_reducible exact H) | (have H2_:=(Option.bind_some _ _).symm.trans H;rw [hy226];with_reducible exact H2_) | (have H2_:=(Option.bind_some _ _).symm.trans H;with_reducible exact H2_) | with_reducible exact H | (rw [hy226];exact H) | exact H
        have Ny226:=aM_ hy226
        clear hy226
        have H':=aM_ H
        clear H
        have p215 : 0 ≤ (x4_1 : Int):=oT_ (by first | (with_reducible assumption) | assumption)
        have q215 : x4_1 < (l0.length : Int):=oT_ (by first | (with_reducible assumption) | assumption)
        obtain ⟨ad215,A215_1,c215_1,A215_2,c215_2,A215_3,c215_3,e215,hx215_0,hx215_1,hx215_2,hx215_3,hl215_1,hi215_1,hl215_2,hi215_2,hl215_3,hi215_3⟩:=at_T46 HR0.out x4_1 p215 q215
        cases e215
        replace hx215_0:=(HB.out.cell (wL_ w _ hx215_0)).trans hx215_0
        replace hx215_1:=(HB.out.cell (wL_ w _ hx215_1)).trans hx215_1
        replace hx215_2:=(HB.out.cell (wL_ w _ hx215_2)).trans hx215_2
        replace hx215_3:=(HB.out.cell (wL_ w _ hx215_3)).trans hx215_3
        have HR215_1:=aM_ hi215_1
        have HC215_1:=aM_ hl215_1
        clear hi215_1 hl215_1
        have HR215_2:=aM_ hi215_2
        have HC215_2:=aM_ hl215_2
        clear hi215_2 hl215_2
        have HR215_3:=aM_ hi215_3
        have HC215_3:=aM_ hl215_3
        clear hi215_3 hl215_3
        replace p215:=eq_true p215
        replace q215:=eq_true q215
        go_wp2_with (first | ((with_reducible refine gate_callee (f:=29) rfl ?_);refine goesL_ (some 20) rfl rfl Tryd.func29 (by kernel_rfl) rfl #[.agg #[.string ((rd_T46 l0 x4_1).f0),.slice A215_1 ((rd_T46 l0 x4_1).f1).length c215_1,.slice A215_2 ((rd_T46 l0 x4_1).f2).length c215_2,.slice A215_3 ((rd_T46 l0 x4_1).f3).length c215_3]] rfl (by (try simp only [mA_,mC_,mN_]);first | done | rfl | (simp only [lD_,lT_];rfl)) ?_;(with_reducible refine (laws_toDef.calls k1 ((rd_T46 l0 x4_1).f0) _ _ ((rd_T46 l0 x4_1).f1) _ _ ((rd_T46 l0 x4_1).f2) _ _ ((rd_T46 l0 x4_1).f3) t216 t217 t220 t223 _ ?side1 ?side2 ?side3 ?side4 ?side5 ?side6 A8.out).mono ?_);(case side1=>repeat (first | exact (Kd.C_below HR215_1.out HB.out) | (with_reducible refine cA_ ?_ _) | (with_reducible refine cN_ ?_ _) | (with_reducible refine cD_ ?_)));(case side2=>exact HC215_1.out);(case side3=>repeat (first | exact (Kd.C_below HR215_2.out HB.out) | (with_reducible refine cA_ ?_ _) | (with_reducible refine cN_ ?_ _) | (with_reducible refine cD_ ?_)));(case side4=>exact HC215_2.out);(case side5=>repeat (first | exact (Kd.C_below HR215_3.out HB.out) | (with_reducible refine cA_ ?_ _) | (with_reducible refine cN_ ?_ _) | (with_reducible refine cD_ ?_)));(case side6=>exact HC215_3.out);rintro e w11 ⟨v218,v221,v224,rfl,ho0,ho1,ho2,hb⟩;refine ⟨_,rfl,?_⟩;have n0_:=aM_ (Kd.R_mono (Kd.R_told (Kd.R_told (Kd.R_told (Kd.R_old (by exact rZ_ HO_3) hb) (Kd.R_base ho0)) (Kd.R_base ho1)) (Kd.S_base ho2)) (fun _ h_=>h_.1));have n1_:=aM_ (Kd.R_lower ho0 (bS_ (by exact bZ_ HB)));have n2_:=aM_ (Kd.R_lower ho1 (bS_ (by exact bZ_ HB)));have n3_:=aM_ (Kd.S_lower ho2 (bS_ (by exact bZ_ HB)));have n4_:=aM_ (bT_ (by exact bZ_ HB) hb);clear HO_3;clear HB;have HO_3:=n0_;have HO219:=n1_;have HO222:=n2_;have HO225:=n3_;have HB:=n4_;clear n0_ n1_ n2_ n3_ n4_;(try clear hb);(try clear hb2);(try clear hk);(try clear hi);(try clear ho0);(try clear ho1);(try clear ho2);have p10 : 0 ≤ (x4_1 : Int):=oT_ (by first | (with_reducible assumption) | assumption);have q10 : (x4_1 : Int) < ((x3_1.length : Int) : Int):=oT_ (by first | (with_reducible assumption) | assumption);obtain ⟨go10,co10,eo10,gb10,gl10,cl10,HG10⟩:=Kd.R_form HO_3.out (by omega);(first | cases eo10 | (injection eo10 with ea_ en_ ec_;(first | subst ea_ | (injection ea_ with ea_;subst ea_));subst ec_;clear en_));have GB10:=aM_ gb10;have GG10:=aM_ HG10;clear gb10 gl10 HG10;obtain ⟨ce10,hcl10,hM10,hcc10,hfr10⟩:=Kd.R_elem HO_3.out z35 (x4_1 : Int) p10 q10;obtain ⟨ve10_1,ve10_2,ve10_3,rfl,ge10_1,ge10_2,ge10_3⟩:=k35_openM hM10;have hx10_0 : w11.cell? ⟨go10,(x4_1 : Int).toNat * 4,none⟩ = some (.string ((rd_T35 x3_1 x4_1).f0)):=hcc10 0 _ rfl;have hx10_1 : w11.cell? ⟨go10,(x4_1 : Int).toNat * 4 + 1,none⟩ = some (ve10_1):=hcc10 1 _ rfl;have hx10_2 : w11.cell? ⟨go10,(x4_1 : Int).toNat * 4 + 2,none⟩ = some (ve10_2):=hcc10 2 _ rfl;have hx10_3 : w11.cell? ⟨go10,(x4_1 : Int).toNat * 4 + 3,none⟩ = some (ve10_3):=hcc10 3 _ rfl;have hf10_0 : w11.frozen? ⟨go10,(x4_1 : Int).toNat * 4,none⟩ = false:=hfr10 0;have hf10_1 : w11.frozen? ⟨go10,(x4_1 : Int).toNat * 4 + 1,none⟩ = false:=hfr10 1;have hf10_2 : w11.frozen? ⟨go10,(x4_1 : Int).toNat * 4 + 2,none⟩ = false:=hfr10 2;have hf10_3 : w11.frozen? ⟨go10,(x4_1 : Int).toNat * 4 + 3,none⟩ = false:=hfr10 3;(try clear hM10);clear hcl10 hcc10 hfr10;replace p10:=eq_true p10;replace q10:=eq_true q10;obtain ⟨Ao12,co12,eo12⟩:=Kd.R_slice HO219.out;subst eo12;obtain ⟨Ao13,co13,eo13⟩:=Kd.R_slice HO222.out;subst eo13;obtain ⟨Ao14,co14,eo14⟩:=Kd.S_slice HO225.out;subst eo14;have n_:=aM_ (Kd.R_mono (ok':=(fun k_=>some k_ ≠ (.slice Ao12 t217.length co12 : Value).ownBlock ∧ some k_ ≠ (.slice Ao13 t220.length co13 : Value).ownBlock ∧ some k_ ≠ (.slice Ao14 t223.length co14 : Value).ownBlock)) HO_3.out (fun k_ hk=>⟨hk.1.1.2,⟨hk.1.2,hk.2⟩⟩));clear HO_3;have HO_3:=n_;clear n_;have HX15:=aM_ (show Kd.R k35 35 w11 w.heap.size (fun _=>True) (.slice (some ⟨go10,0,none⟩) x3_1.length co10) x3_1 from (by (with_reducible repeat (first | apply rA_ | apply rN_ | apply rD_));exact Kd.R_mono HO_3.out (fun _ hk=>trivial)));obtain ⟨ce15,hcl15,hM15,hcc15,hfr15⟩:=Kd.R_elem HX15.out z35 (x4_1 : Int) (oT_ (by first | (with_reducible assumption) | assumption)) (by have h_ : (x4_1 : Int) < ((x3_1.length : Int) : Int):=oT_ (by first | (with_reducible assumption) | assumption);first | exact h_ | (have e_:=(Kd.R_reads' HO_3.out).1;omega) | simpa using h_);obtain ⟨ve15_1,ve15_2,ve15_3,rfl,ge15_1,ge15_2,ge15_3⟩:=k35_openM hM15;have HP15:=Kd.R_seg HX15.out (x4_1 : Int) (oT_ (by first | (with_reducible assumption) | assumption)) (by have h_ : (x4_1 : Int) < ((x3_1.length : Int) : Int):=oT_ (by first | (with_reducible assumption) | assumption);first | exact h_ | (have e_:=(Kd.R_reads' HO_3.out).1;omega) | simpa using h_) (seg:=[.string t216,.slice Ao12 t217.length co12,.slice Ao13 t220.length co13,.slice Ao14 t223.length co14]) (j:=0) hcl15 hcc15 (show 4 ≤ 4 from by decide) (x':=(⟨t216,t217,t220,t223⟩ : S35)) (k35_mkM _ _ _ (⟨t216,t217,t220,t223⟩ : S35) (Kd.R_mono (Kd.R_apart' (HO219.out) (Kd.R_typed HO_3.out) (by decide)) (fun k_ hk=>⟨trivial,fun e_=>(hk.2) (by rw [e_];rfl)⟩)) (Kd.R_mono (Kd.R_apart' (HO222.out) (Kd.R_typed HO_3.out) (by decide)) (fun k_ hk=>⟨trivial,fun e_=>(hk.2) (by rw [e_];rfl)⟩)) (Kd.R_mono (Kd.R_apart' ((Kd.S_R HO225.out)) (Kd.R_typed HO_3.out) (by decide)) (fun k_ hk=>⟨trivial,fun e_=>(hk.2) (by rw [e_];rfl)⟩))) (fun _ hk=>hk);have hx15_0:=hcc15 0 _ rfl;(try simp only [show (k35).sz = 4 from rfl,Nat.mul_one,Nat.add_zero] at hx15_0);have hf15_0:=hfr15 0;(try simp only [show (k35).sz = 4 from rfl,Nat.mul_one,Nat.add_zero] at hf15_0);have hx15_1:=hcc15 1 _ rfl;(try simp only [show (k35).sz = 4 from rfl,Nat.mul_one,Nat.add_zero] at hx15_1);have hf15_1:=hfr15 1;(try simp only [show (k35).sz = 4 from rfl,Nat.mul_one,Nat.add_zero] at hf15_1);have hx15_2:=hcc15 2 _ rfl;(try simp only [show (k35).sz = 4 from rfl,Nat.mul_one,Nat.add_zero] at hx15_2);have hf15_2:=hfr15 2;(try simp only [show (k35).sz = 4 from rfl,Nat.mul_one,Nat.add_zero] at hf15_2);have hx15_3:=hcc15 3 _ rfl;(try simp only [show (k35).sz = 4 from rfl,Nat.mul_one,Nat.add_zero] at hx15_3);have hf15_3:=hfr15 3;(try simp only [show (k35).sz = 4 from rfl,Nat.mul_one,Nat.add_zero] at hf15_3);(try clear hM15);clear hcl15 hcc15 hfr15) | ((with_reducible refine gate_store (t:=35) (p:=21) rfl ?_);refine store_event (t:=35) (p:=21) (v:=?vo_w16) (w1:=((((w11.setCell ⟨go10,(x4_1 : Int).toNat * 4,none⟩ (.string t216)).setCell ⟨go10,(x4_1 : Int).toNat * 4 + 1,none⟩ (.slice Ao12 t217.length co12)).setCell ⟨go10,(x4_1 : Int).toNat * 4 + 2,none⟩ (.slice Ao13 t220.length co13)).setCell ⟨go10,(x4_1 : Int).toNat * 4 + 3,none⟩ (.slice Ao14 t223.length co14))) ?hg ?ho ?hn ?hr ?_;(case ho=>rfl);(case hg=>rfl);(case hn=>rfl);(case hr=>first | (go_simp;done) | (go_simp;rfl));intro w16 hw;have hg : w11.grownBy w16 (some go10):=(by rw [hw];exact HP15.2);have hp_ : Kd.R k35 35 w16 w.heap.size (fun _=>True) (.slice (some ⟨go10,0,none⟩) x3_1.length co10) y226:=(by rw [hw,Ny226.out];exact HP15.1);clear HP15;have n0_:=aM_ (hp_);have n1_:=aM_ ((by rw [hw];exact bE_ (bE_ (bE_ (bE_ (HB.out) GB10.out) GB10.out) GB10.out) GB10.out : Below w.heap.size w w16));clear HO_3;clear HB;clear HO219;clear HO222;clear HO225;have HO_3:=n0_;have HB:=n1_;clear n0_ n1_;clear hg hw hp_))
        go_roundg k1
        case measure=>have:=HK1.out;omega
        case rel=>exact ⟨(y226),(wrap64 (x4_1 + 1)),(by first | rfl | (simp;done) | (simp [*];done)),H', ⟨by have:=HK1.out;omega⟩,⟨by exact rZ_ HO_3⟩,⟨by exact bZ_ HB⟩⟩
       ·rw [if_neg c9] at H
        exact absurd H (by simp)
      ·rw [if_neg c7] at H
       exact absurd H (by simp)
     ·rw [if_neg c6] at H
      have c6b0 : decide (x4_1 < (l0.length : Int)) = false:=decide_eq_false c6
      clear c6
      obtain rfl:=Option.some.inj H
      go_wp2
      go_ret
      exact ⟨_,by first | rfl | (simp [errW_none,errW_some] <;> rfl) | (simp [*, errW_none,errW_some] <;> rfl),by exact rZ_ HO_3,by exact bZ_ HB⟩
  ·rw [if_neg c3] at H
   exact absurd H (by simp)
 ·rw [if_neg c2] at H
  exact absurd H (by simp)
def spaceB : ByteArray:=⟨#[32]⟩
def strings_Split.f (a0 : ByteArray) (a1 : ByteArray) : Option (List ByteArray):=if a1 = spaceB ∧ a0.size < 4294967281 then some (Lib.splitB spaceB 0 (Lib.countB a0 spaceB) a0) else none
open Go.Shelf in
theorem strings_Split.at_ (s : ByteArray) (w : World) (hs : s.size < 4294967281) :
  Calls Tryd.prog 64 #[.string s,.string spaceB] w fun e w'=>e = .returned (.slice (some ⟨w.heap.size,0,none⟩) (Lib.countB s spaceB + 1) (Lib.countB s spaceB + 1)) ∧ w' = w.alloc (.cells ((Lib.splitB spaceB 0 (Lib.countB s spaceB) s).map Value.string).toArray 9):=by
 have h1 : 1 ≤ spaceB.size:=Nat.le_refl 1
 have hle:=Lib.countB_le spaceB h1 s.size s (Nat.le_refl _)
 have hlen:=Lib.splitB_all spaceB h1 0 _ s rfl
 have c:=Any.strings_genSplit_core Tryd.lays221 (by kernel_rfl) s spaceB 0 (-1) (Lib.countB s spaceB + 1) w hs h1 (Nat.zero_le _)
  (fun x c hx=>(Tryd.strings_Index_one x 32 _).mono fun e w' ⟨he,hw⟩=>⟨by rw [he,← Lib.index_one];rfl,hw⟩)
  ((Tryd.strings_Count_one s 32 w).mono fun e w' ⟨he,hw⟩=>⟨by
   rw [he]
   show _ = Ending.returned (Value.int .i64 ((Lib.count s.data.toList [32] : Nat) : Int))
   rw [Lib.count_one]
   rfl,hw⟩) (by decide) (by decide) (by rw [if_pos (by decide)];omega)
 rw [Nat.add_sub_cancel,hlen] at c
 have e2 : Lib.cellsOf (Lib.splitB spaceB 0 (Lib.countB s spaceB) s) (Lib.countB s spaceB + 1) = ((Lib.splitB spaceB 0 (Lib.countB s spaceB) s).map Value.string).toArray:=by rw [← hlen];exact Lib.cellsOf_full _
 rw [e2] at c
 go_enter Tryd.func64,Tryd.ntmps64
 go_wp2_with (go_at_call 110;refine c.mono ?_;rintro e w' ⟨rfl,hw⟩;rw [hw])
 go_ret
 exact ⟨rfl,rfl⟩
theorem strings_Split.calls (a0 a1 : ByteArray) (r : List ByteArray) (w : World) (h : strings_Split.f a0 a1 = some r) :
  Calls Tryd.prog 64 #[.string a0,.string a1] w fun e w'=>∃ v0_ : Value,e = .returned v0_ ∧ Kd.R Kd.string 9 w' w.heap.size (fun _=>True) v0_ r ∧ Below w.heap.size w w':=by
 unfold strings_Split.f at h
 by_cases hb : a1 = spaceB ∧ a0.size < 4294967281
 ·rw [if_pos hb] at h
  obtain rfl:=Option.some.inj h
  obtain ⟨rfl,hs⟩:=hb
  have hlen:=Lib.splitB_all spaceB (Nat.le_refl 1) 0 _ a0 rfl
  have hle:=Lib.countB_le spaceB (Nat.le_refl 1) a0.size a0 (Nat.le_refl _)
  refine (strings_Split.at_ a0 w hs).mono fun e w' ⟨he,hw⟩=>⟨_,he,?_,hw ▸ bA_ (Below.refl _ _) _⟩
  subst hw
  have ho:=World.ownsRow_lit (base:=w.heap.size) (e:=9) (size:=1) w ((Lib.splitB spaceB 0 (Lib.countB a0 spaceB) a0).map Value.string).toArray (Lib.countB a0 spaceB + 1) (Nat.le_refl _) (by simp only [maxLen];omega) (by simp [hlen])
  rw [List.toList_toArray,← hlen] at ho
  rw [← hlen]
  exact Kd.R_of_own (h1:=fun _=>rfl) (ok:=fun _=>True) ho (fun _ _=>trivial)
 ·rw [if_neg hb] at h
  cases h
def impl_in.f (a0 : Int) (a1 : Int) (a2 : Int) : Option (Bool):=if a0 ≥ a1 then (some (decide (a0 ≤ a2))) else (some false)
set_option maxHeartbeats 8000000 in
set_option maxRecDepth 100000 in
theorem impl_in.calls (a0 : Int) (a1 : Int) (a2 : Int) (r : Bool) (w : World) (h : impl_in.f a0 a1 a2 = some r) :
  Calls Tryd.prog 55 #[.int .i64 a0,.int .i64 a1,.int .i64 a2] w fun e w'=>e = .returned (.bool r) ∧ Drawn0 w w':=by
 have H : (if a0 ≥ a1 then (some (decide (a0 ≤ a2))) else (some false)) = some r:=h
 clear h
 by_cases c4 : a0 ≥ a1
 ·rw [if_pos c4] at H
  have c4b0 : decide (a1 ≤ a0) = true:=decide_eq_true c4
  clear c4
  obtain rfl:=Option.some.inj H
  go_enter Tryd.func55,Tryd.ntmps55
  go_wp2
  go_ret
  exact ⟨by first | rfl | (simp;done) | (simp [*];done),by repeat (first | exact Drawn0.refl _ | apply Drawn0.step)⟩
 ·rw [if_neg c4] at H
  have c4b0 : decide (a1 ≤ a0) = false:=decide_eq_false c4
  clear c4
  obtain rfl:=Option.some.inj H
  go_enter Tryd.func55,Tryd.ntmps55
  go_wp2
  go_ret
  exact ⟨by first | rfl | (simp;done) | (simp [*];done),by repeat (first | exact Drawn0.refl _ | apply Drawn0.step)⟩
def impl_isLetter.f (a0 : Int) : Option (Bool):=if a0 ≥ 97 then (some (decide (a0 ≤ 122))) else (some false)
set_option maxHeartbeats 8000000 in
set_option maxRecDepth 100000 in
theorem impl_isLetter.calls (a0 : Int) (r : Bool) (w : World) (h : impl_isLetter.f a0 = some r) :
  Calls Tryd.prog 93 #[.int .u8 a0] w fun e w'=>e = .returned (.bool r) ∧ Drawn0 w w':=by
 have H : (if a0 ≥ 97 then (some (decide (a0 ≤ 122))) else (some false)) = some r:=h
 clear h
 by_cases c2 : a0 ≥ 97
 ·rw [if_pos c2] at H
  have c2b0 : decide (97 ≤ a0) = true:=decide_eq_true c2
  clear c2
  obtain rfl:=Option.some.inj H
  go_enter Tryd.func93,Tryd.ntmps93
  go_wp2
  go_ret
  exact ⟨by first | rfl | (simp;done) | (simp [*];done),by repeat (first | exact Drawn0.refl _ | apply Drawn0.step)⟩
 ·rw [if_neg c2] at H
  have c2b0 : decide (97 ≤ a0) = false:=decide_eq_false c2
  clear c2
  obtain rfl:=Option.some.inj H
  go_enter Tryd.func93,Tryd.ntmps93
  go_wp2
  go_ret
  exact ⟨by first | rfl | (simp;done) | (simp [*];done),by repeat (first | exact Drawn0.refl _ | apply Drawn0.step)⟩
def impl_isDigit.f (a0 : Int) : Option (Bool):=if a0 ≥ 48 then (some (decide (a0 ≤ 57))) else (some false)
set_option maxHeartbeats 8000000 in
set_option maxRecDepth 100000 in
theorem impl_isDigit.calls (a0 : Int) (r : Bool) (w : World) (h : impl_isDigit.f a0 = some r) :
  Calls Tryd.prog 94 #[.int .u8 a0] w fun e w'=>e = .returned (.bool r) ∧ Drawn0 w w':=by
 have H : (if a0 ≥ 48 then (some (decide (a0 ≤ 57))) else (some false)) = some r:=h
 clear h
 by_cases c2 : a0 ≥ 48
 ·rw [if_pos c2] at H
  have c2b0 : decide (48 ≤ a0) = true:=decide_eq_true c2
  clear c2
  obtain rfl:=Option.some.inj H
  go_enter Tryd.func94,Tryd.ntmps94
  go_wp2
  go_ret
  exact ⟨by first | rfl | (simp;done) | (simp [*];done),by repeat (first | exact Drawn0.refl _ | apply Drawn0.step)⟩
 ·rw [if_neg c2] at H
  have c2b0 : decide (48 ≤ a0) = false:=decide_eq_false c2
  clear c2
  obtain rfl:=Option.some.inj H
  go_enter Tryd.func94,Tryd.ntmps94
  go_wp2
  go_ret
  exact ⟨by first | rfl | (simp;done) | (simp [*];done),by repeat (first | exact Drawn0.refl _ | apply Drawn0.step)⟩
end Go.Proofs.YtipehkeabnfngaaDoor.PFnExactFirstBad
