import Derived.Test.YtipehkeabnfngaaDoorZDTPFnExactDefTextx0
import Derived.Test.YtipehkeabnfngaaDoorZDTPFnExactDefTextx13
namespace Go.Proofs.YtipehkeabnfngaaDoor.PFnExactDefText
open Go.RowKit Go.Proofs.YtipehkeabnfngaaDoorW.PrintWords Go.Proofs.YtipehkeabnfngaaDoorW.PrintLast Go.Proofs.YtipehkeabnfngaaDoorW.PrintMore Go.Proofs.YtipehkeabnfngaaDoor.Xtra
attribute [local go_sem] max2_int min2_int max_two min_two max_three min_three max_four min_four str_leq str_gtr str_geq setCell_drewN cell_set2 cell_set3   -- for this text's walks alone
set_option linter.unusedVariables false
set_option linter.unusedSimpArgs false
def laws_toIndexS.l0 : Nat → List (S134) → List (S69) → Int → Option ((List (S69)))
 | 0,_,_,_=>none
 | k + 1,x0,x3,x4=>if x4 < (x0.length : Int) then (if 0 ≤ x4 then ((laws_toIndex.f k ((rd_T134 x0 x4).f0) ((rd_T134 x0 x4).f1) ((rd_T134 x0 x4).f2)).bind fun bt295=>(if x4 < (x3.length : Int) then (laws_toIndexS.l0 k x0 (x3.set (x4 : Int).toNat (⟨bt295.1,bt295.2.1,bt295.2.2⟩ : S69)) (wrap64 (x4 + 1))) else (none))) else (none)) else (some x3)
def laws_toIndexS.f (k : Nat) (l0 : List (S134)) : Option ((List (S69))):=if 0 ≤ (l0.length : Int) then (if ((l0.length : Int) : Int).toNat ≤ 5864062014805 then (laws_toIndexS.l0 k l0 (List.replicate ((l0.length : Int) : Int).toNat z69) 0) else (none)) else (none)
theorem laws_toIndexS.mono_l : ∀ k,(∀ y0 y1 y2,LeO (laws_toIndexS.l0 k y0 y1 y2) (laws_toIndexS.l0 (k + 1) y0 y1 y2))
 | 0=>fun _ _ _ r h=>by simp [laws_toIndexS.l0] at h
 | k + 1=>by
  have ih0:=laws_toIndexS.mono_l k
  ·intro y0 y1 y2
   unfold laws_toIndexS.l0
   repeat' first
   | (with_reducible exact ih0 _ _ _)
   | (with_reducible exact laws_toIndex.mono _ _ _ _)
   | (with_reducible exact LeO.refl _)
   | (with_reducible exact LeO.none _)
   | (with_reducible refine LeO.ite ?_ ?_)
   | (with_reducible refine LeO.bind ?_ (fun _=>?_))
   | exact ih0 _ _ _
   | exact laws_toIndex.mono _ _ _ _
   | exact LeO.none _
   | refine LeO.ite ?_ ?_
   | refine LeO.bind ?_ (fun _=>?_)
theorem laws_toIndexS.mono : ∀ a0 k,LeO (laws_toIndexS.f k a0) (laws_toIndexS.f (k + 1) a0):=by
 intro a0 k
 have ih0:=laws_toIndexS.mono_l k
 unfold laws_toIndexS.f
 repeat' first
   | (with_reducible exact ih0 _ _ _)
   | (with_reducible exact laws_toIndex.mono _ _ _ _)
   | (with_reducible exact LeO.refl _)
   | (with_reducible exact LeO.none _)
   | (with_reducible refine LeO.ite ?_ ?_)
   | (with_reducible refine LeO.bind ?_ (fun _=>?_))
   | exact ih0 _ _ _
   | exact laws_toIndex.mono _ _ _ _
   | exact LeO.none _
   | refine LeO.ite ?_ ?_
   | refine LeO.bind ?_ (fun _=>?_)
set_option maxHeartbeats 8000000 in
set_option maxRecDepth 100000 in
theorem laws_toIndexS.calls (k : Nat) (A0 : Option Addr) (c0 : Nat) (l0 : List (S134)) (r : List (S69)) (w : World) (hr0 : Kd.C k134 w A0 l0.length l0) (hc0 : l0.length ≤ c0) (h : laws_toIndexS.f k l0 = some r) :
  Calls Tryd.prog 75 #[.slice A0 l0.length c0] w fun e w'=>∃ v0_ : Value,e = .returned (v0_) ∧ Kd.S k69 69 w' w.heap.size (fun _=>True) v0_ r ∧ Below w.heap.size w w':=by
 have hu134:=Tryd.underlying134
 have hu69:=Tryd.underlying69
 have HR0:=aM_ hr0
 have HC0:=aM_ hc0
 clear hr0 hc0
 have HB:=aM_ (Below.refl w.heap.size w)
 have H : (if 0 ≤ (l0.length : Int) then (if ((l0.length : Int) : Int).toNat ≤ 5864062014805 then (laws_toIndexS.l0 k l0 (List.replicate ((l0.length : Int) : Int).toNat z69) 0) else (none)) else (none)) = some r:=h
 clear h
 by_cases c2 : 0 ≤ (l0.length : Int)
 ·rw [if_pos c2] at H
  have c2b0:=eq_true c2
  have c2b1 : decide (0 ≤ (l0.length : Int)) = true:=decide_eq_true c2
  clear c2
  by_cases c3 : ((l0.length : Int) : Int).toNat ≤ 5864062014805
  ·rw [if_pos c3] at H
   have c3b0:=eq_true c3
   have c3b1 : decide (((l0.length : Int) : Int).toNat ≤ 5864062014805) = true:=decide_eq_true c3
   clear c3
   obtain ⟨y291,hy291⟩ : ∃ y_ : List (S69),y_ = (List.replicate ((l0.length : Int) : Int).toNat z69):=⟨_,rfl⟩
   replace H : (laws_toIndexS.l0 k l0 y291 0) = some r:=by first | (rw [hy291];with_reducible exact H) | (have H2_:=(Option.bind_some _ _).symm.trans H;rw [hy291];with_reducible exact H2_) | (have H2_:=(Option.bind_some _ _).symm.trans H;with_reducible exact H2_) | with_reducible exact H | (rw [hy291];exact H) | exact H
   have Ny291:=aM_ hy291
   clear hy291
   have H':=aM_ H
   clear H
   go_enter Tryd.func75,Tryd.ntmps75
   go_wp2_with (first | ((with_reducible refine gate_dst (N:=7) rfl ?_);refine Kd.S_make k69 _ 69 rfl (N:=7) rfl 33 _ _ rfl (l0.length : Int) rfl rfl Tryd.underlying33 (.agg #[(.string ⟨#[]⟩),(.bool false),(.slice none 0 0)]) 48 info69 rfl (by decide) (by omega) z69 (ok:=fun _=>True) (okp:=fun _=>True) (k69_mkM _ _ _ z69 (Kd.R_nil _ _ _ _ _)) (fun _ hk=>hk) trivial (oT_ (by first | (with_reducible assumption) | assumption)) (Nat.le_trans (Nat.mul_le_mul_right _ (oT_ (by first | (with_reducible assumption) | assumption) : (l0.length : Int).toNat ≤ 5864062014805)) (by omega)) (Below.refl _ _) (Nat.le_refl _) ?_;intro v292 w4 ho5 hb hg_ hnew_;clear hg_ hnew_;(first | rw [← Ny291.out] at ho5 | (simp only [Int.reduceToNat] at ho5;rw [← Ny291.out] at ho5));have n0_:=aM_ (Kd.S_lower ho5 (bS_ (by exact bZ_ HB)));have n1_:=aM_ (bT_ (by exact bZ_ HB) hb);clear HB;have HO293:=n0_;have HB:=n1_;clear n0_ n1_;clear hb ho5))
   (try simp only [Act.put,sI_,sS_,sZ_])
   go_loopg [4] k (fun kq v4 w'=>∃ (x3_1 : List (S69)) (x4_1 : Int),v4 = .int .i64 x4_1 ∧ Aside0 (laws_toIndexS.l0 kq l0 x3_1 x4_1 = some r) ∧ Aside0 (kq ≤ k) ∧ Aside0 (Kd.S k69 69 w' w.heap.size (fun _=>True) v292 x3_1) ∧ Aside0 (Below w.heap.size w w'))
   case atStart=>exact ⟨(y291),(0),(by first | rfl | (simp;done) | (simp [*];done)),H', ⟨Nat.le_refl _⟩,⟨by (with_reducible repeat (first | apply Kd.S_alloc | apply Kd.S_drewN | apply Kd.S_drew));exact HO293.out⟩,⟨by exact bZ_ HB⟩⟩
   case round =>
    clear H'
    try clear c2
    try clear c2b0
    try clear c2b1
    try clear p2
    try clear c3
    try clear c3b0
    try clear c3b1
    obtain ⟨x3_1,x4_1,rfl,HA,HK1,HO_3,HB⟩:=hrel
    cases gk with
    | zero=>exact absurd HA.out (by simp [laws_toIndexS.l0])
    | succ k1 =>
     have H:=HA.out
     clear HA
     simp only [laws_toIndexS.l0] at H
     by_cases c6 : x4_1 < (l0.length : Int)
     ·rw [if_pos c6] at H
      have c6b0 : decide (x4_1 < (l0.length : Int)) = true:=decide_eq_true c6
      clear c6
      by_cases c7 : 0 ≤ x4_1
      ·rw [if_pos c7] at H
       have c7b0 : decide (0 ≤ x4_1) = true:=decide_eq_true c7
       clear c7
       replace H:=oB_ H
       obtain ⟨⟨t295,t296,t297⟩,A80,H⟩:=H
       replace H : (if x4_1 < (x3_1.length : Int) then (laws_toIndexS.l0 k1 l0 (x3_1.set (x4_1 : Int).toNat (⟨t295,t296,t297⟩ : S69)) (wrap64 (x4_1 + 1))) else (none)) = some r:=H
       have A8:=aM_ A80
       clear A80
       by_cases c9 : x4_1 < (x3_1.length : Int)
       ·rw [if_pos c9] at H
        have c9b0 : decide (x4_1 < (x3_1.length : Int)) = true:=decide_eq_true c9
        clear c9
        obtain ⟨y300,hy300⟩ : ∃ y_ : List (S69),y_ = (x3_1.set (x4_1 : Int).toNat (⟨t295,t296,t297⟩ : S69)):=⟨_,rfl⟩
        replace H : (laws_toIndexS.l0 k1 l0 y300 (wrap64 (x4_1 + 1))) = some r:=by first | (rw [hy300];with_reducible exact H) | (have H2_:=(Option.bind_some _ _).symm.trans H;rw [hy300];with_reducible exact H2_) | (have H2_:=(Option.bind_some _ _).symm.trans H;with_reducible exact H2_) | with_reducible exact H | (rw [hy300];exact H) | exact H
        have Ny300:=aM_ hy300
        clear hy300
        have H':=aM_ H
        clear H
        have p294 : 0 ≤ (x4_1 : Int):=oT_ (by first | (with_reducible assumption) | assumption)
        have q294 : x4_1 < (l0.length : Int):=oT_ (by first | (with_reducible assumption) | assumption)
        obtain ⟨ad294,A294_2,c294_2,e294,hx294_0,hx294_1,hx294_2,hl294_2,hi294_2⟩:=at_T134 HR0.out x4_1 p294 q294
        cases e294
        replace hx294_0:=(HB.out.cell (wL_ w _ hx294_0)).trans hx294_0
        replace hx294_1:=(HB.out.cell (wL_ w _ hx294_1)).trans hx294_1
        replace hx294_2:=(HB.out.cell (wL_ w _ hx294_2)).trans hx294_2
        have HR294_2:=aM_ hi294_2
        have HC294_2:=aM_ hl294_2
        clear hi294_2 hl294_2
        replace p294:=eq_true p294
        replace q294:=eq_true q294
        go_wp2_with (first | ((with_reducible refine gate_callee (f:=116) rfl ?_);refine goesL_ (some 20) rfl rfl Tryd.func116 (by kernel_rfl) rfl #[.agg #[.string ((rd_T134 l0 x4_1).f0),.bool ((rd_T134 l0 x4_1).f1),.slice A294_2 ((rd_T134 l0 x4_1).f2).length c294_2]] rfl (by (try simp only [mA_,mC_,mN_]);first | done | rfl | (simp only [lD_,lT_];rfl)) ?_;(with_reducible refine (laws_toIndex.calls k1 ((rd_T134 l0 x4_1).f0) ((rd_T134 l0 x4_1).f1) _ _ ((rd_T134 l0 x4_1).f2) t295 t296 t297 _ ?side1 ?side2 A8.out).mono ?_);(case side1=>repeat (first | exact (Kd.C_below HR294_2.out HB.out) | (with_reducible refine cA_ ?_ _) | (with_reducible refine cN_ ?_ _) | (with_reducible refine cD_ ?_)));(case side2=>exact HC294_2.out);rintro e w11 ⟨v298,rfl,ho0,hb⟩;refine ⟨_,rfl,?_⟩;have n0_:=aM_ (Kd.S_elder' (by (with_reducible repeat (first | apply Kd.S_alloc | apply Kd.S_drewN | apply Kd.S_drew));exact HO_3.out) (Kd.R_base ho0) hb);have n1_:=aM_ (Kd.R_lower ho0 (bS_ (by exact bZ_ HB)));have n2_:=aM_ (bT_ (by exact bZ_ HB) hb);clear HO_3;clear HB;have HO_3:=n0_;have HO299:=n1_;have HB:=n2_;clear n0_ n1_ n2_;(try clear hb);(try clear hb2);(try clear hk);(try clear hi);(try clear ho0);have p10 : 0 ≤ (x4_1 : Int):=oT_ (by first | (with_reducible assumption) | assumption);have q10 : (x4_1 : Int) < ((x3_1.length : Int) : Int):=oT_ (by first | (with_reducible assumption) | assumption);obtain ⟨go10,co10,eo10,gb10,gl10,cl10,HG10⟩:=Kd.S_form HO_3.out (by omega);(first | cases eo10 | (injection eo10 with ea_ en_ ec_;(first | subst ea_ | (injection ea_ with ea_;subst ea_));subst ec_;clear en_));have GB10:=aM_ gb10;have GG10:=aM_ HG10;clear gb10 gl10 HG10;obtain ⟨_,ce10,hcl10,hM10,hcc10,hfr10,_,_⟩:=Kd.S_elem HO_3.out z69 (x4_1 : Int) p10 q10;obtain ⟨ve10_2,rfl,ge10_2⟩:=k69_openM hM10;have hx10_0 : w11.cell? ⟨go10,(x4_1 : Int).toNat * 3,none⟩ = some (.string ((rd_T69 x3_1 x4_1).f0)):=hcc10 0 _ rfl;have hx10_1 : w11.cell? ⟨go10,(x4_1 : Int).toNat * 3 + 1,none⟩ = some (.bool ((rd_T69 x3_1 x4_1).f1)):=hcc10 1 _ rfl;have hx10_2 : w11.cell? ⟨go10,(x4_1 : Int).toNat * 3 + 2,none⟩ = some (ve10_2):=hcc10 2 _ rfl;have hf10_0 : w11.frozen? ⟨go10,(x4_1 : Int).toNat * 3,none⟩ = false:=hfr10 0;have hf10_1 : w11.frozen? ⟨go10,(x4_1 : Int).toNat * 3 + 1,none⟩ = false:=hfr10 1;have hf10_2 : w11.frozen? ⟨go10,(x4_1 : Int).toNat * 3 + 2,none⟩ = false:=hfr10 2;(try clear hM10);clear hcl10 hcc10 hfr10;replace p10:=eq_true p10;replace q10:=eq_true q10;obtain ⟨Ao12,co12,eo12⟩:=Kd.R_slice HO299.out;subst eo12;have n_:=aM_ (Kd.S_mono (ok':=(fun k_=>some k_ ≠ (.slice Ao12 t297.length co12 : Value).ownBlock)) HO_3.out (fun k_ hk=>hk.2));clear HO_3;have HO_3:=n_;clear n_;have HX13:=aM_ (show Kd.S k69 69 w11 w.heap.size (fun k_=>((fun _=>True)) k_ ∧ ¬ ((fun k_=>some k_ = (.slice Ao12 t297.length co12 : Value).ownBlock)) k_) (.slice (some ⟨go10,0,none⟩) x3_1.length co10) x3_1 from (by (with_reducible repeat (first | apply Kd.S_alloc | apply Kd.S_drewN | apply Kd.S_drew));exact Kd.S_mono HO_3.out (fun k_ hk=>⟨trivial,fun e_=>hk e_⟩)));obtain ⟨oki13,ce13,hcl13,hM13,hcc13,hfr13,hoki13,hH13⟩:=Kd.S_elem HX13.out z69 (x4_1 : Int) (oT_ (by first | (with_reducible assumption) | assumption)) (by have h_ : (x4_1 : Int) < ((x3_1.length : Int) : Int):=oT_ (by first | (with_reducible assumption) | assumption);first | exact h_ | (have e_:=(Kd.S_reads' HO_3.out).1;omega) | simpa using h_);obtain ⟨ve13_2,rfl,ge13_2⟩:=k69_openM hM13;have HP13:=Kd.S_seg hH13 (oT_ (by first | (with_reducible assumption) | assumption)) (by have h_ : (x4_1 : Int) < ((x3_1.length : Int) : Int):=oT_ (by first | (with_reducible assumption) | assumption);first | exact h_ | (have e_:=(Kd.S_reads' HO_3.out).1;omega) | simpa using h_) (seg:=[.string t295,.bool t296,.slice Ao12 t297.length co12]) (j:=0) (show 3 ≤ 3 from by decide) (x':=(⟨t295,t296,t297⟩ : S69)) (k69_mkM _ _ _ (⟨t295,t296,t297⟩ : S69) (Kd.R_mono (Kd.R_tight rfl (Kd.R_mono (ok':=fun k_=>((fun _=>True)) k_ ∧ k_ ≠ go10) (Kd.R_apart' (HO299.out) (Kd.S_typed HO_3.out) (by decide)) (fun k_ hk=>⟨trivial,fun e_=>(hk.2) (by rw [e_];rfl)⟩))) (fun _ h_=>Or.inr (h_)))) (fun _ hk=>hk) (fun k_ hk_=>((Kd.R_mono (ok':=fun k_=>((fun _=>True)) k_ ∧ k_ ≠ go10) (Kd.R_apart' (HO299.out) (Kd.S_typed HO_3.out) (by decide)) (fun k_ hk=>⟨trivial,fun e_=>(hk.2) (by rw [e_];rfl)⟩))).1 k_ hk_.symm);have hx13_0:=hcc13 0 _ rfl;(try simp only [show (k69).sz = 3 from rfl,Nat.mul_one,Nat.add_zero] at hx13_0);have hf13_0:=hfr13 0;(try simp only [show (k69).sz = 3 from rfl,Nat.mul_one,Nat.add_zero] at hf13_0);have hx13_1:=hcc13 1 _ rfl;(try simp only [show (k69).sz = 3 from rfl,Nat.mul_one,Nat.add_zero] at hx13_1);have hf13_1:=hfr13 1;(try simp only [show (k69).sz = 3 from rfl,Nat.mul_one,Nat.add_zero] at hf13_1);have hx13_2:=hcc13 2 _ rfl;(try simp only [show (k69).sz = 3 from rfl,Nat.mul_one,Nat.add_zero] at hx13_2);have hf13_2:=hfr13 2;(try simp only [show (k69).sz = 3 from rfl,Nat.mul_one,Nat.add_zero] at hf13_2);(try clear hM13);clear hcl13 hcc13 hfr13 hoki13 hH13) | ((with_reducible refine gate_store (t:=69) (p:=21) rfl ?_);refine store_event (t:=69) (p:=21) (v:=?vo_w14) (w1:=(((w11.setCell ⟨go10,(x4_1 : Int).toNat * 3,none⟩ (.string t295)).setCell ⟨go10,(x4_1 : Int).toNat * 3 + 1,none⟩ (.bool t296)).setCell ⟨go10,(x4_1 : Int).toNat * 3 + 2,none⟩ (.slice Ao12 t297.length co12))) ?hg ?ho ?hn ?hr ?_;(case ho=>rfl);(case hg=>rfl);(case hn=>rfl);(case hr=>first | (go_simp;done) | (go_simp;rfl));intro w14 hw;have hg : w11.grownBy w14 (some go10):=(by rw [hw];exact HP13.2);have hp_ : Kd.S k69 69 w14 w.heap.size (fun _=>True) (.slice (some ⟨go10,0,none⟩) x3_1.length co10) y300:=(by rw [hw,Ny300.out];exact HP13.1);clear HP13;have n0_:=aM_ (hp_);have n1_:=aM_ ((by rw [hw];exact bE_ (bE_ (bE_ (HB.out) GB10.out) GB10.out) GB10.out : Below w.heap.size w w14));clear HO_3;clear HB;clear HO299;have HO_3:=n0_;have HB:=n1_;clear n0_ n1_;clear hg hw hp_))
        go_roundg k1
        case measure=>have:=HK1.out;omega
        case rel=>exact ⟨(y300),(wrap64 (x4_1 + 1)),(by first | rfl | (simp;done) | (simp [*];done)),H', ⟨by have:=HK1.out;omega⟩,⟨by (with_reducible repeat (first | apply Kd.S_alloc | apply Kd.S_drewN | apply Kd.S_drew));exact HO_3.out⟩,⟨by exact bZ_ HB⟩⟩
       ·rw [if_neg c9] at H
        exact absurd H (by simp)
      ·rw [if_neg c7] at H
       exact absurd H (by simp)
     ·rw [if_neg c6] at H
      have c6b0 : decide (x4_1 < (l0.length : Int)) = false:=decide_eq_false c6
      clear c6
      obtain rfl:=Option.some.inj H
      go_wp2
      go_ret
      exact ⟨_,by first | rfl | (simp [errW_none,errW_some] <;> rfl) | (simp [*, errW_none,errW_some] <;> rfl),by (with_reducible repeat (first | apply Kd.S_alloc | apply Kd.S_drewN | apply Kd.S_drew));exact HO_3.out,by exact bZ_ HB⟩
  ·rw [if_neg c3] at H
   exact absurd H (by simp)
 ·rw [if_neg c2] at H
  exact absurd H (by simp)
def laws_toDef.f (k : Nat) (a0_0 : ByteArray) (l0_1 : List (S131)) (l0_2 : List (S137)) (l0_3 : List (S134)) : Option (ByteArray × (List (S82)) × (List (S85)) × (List (S69))):=(laws_toColS.f k l0_1).bind fun t304=>((laws_toByS.f k l0_2).bind fun t307=>((laws_toIndexS.f k l0_3).bind fun t310=>(some (a0_0,t304,t307,t310))))
theorem laws_toDef.mono : ∀ a0 a1 a2 a3 k,LeO (laws_toDef.f k a0 a1 a2 a3) (laws_toDef.f (k + 1) a0 a1 a2 a3):=by
 intro a0 a1 a2 a3 k
 unfold laws_toDef.f
 repeat' first
   | (with_reducible exact laws_toByS.mono _ _)
   | (with_reducible exact laws_toColS.mono _ _)
   | (with_reducible exact laws_toIndexS.mono _ _)
   | (with_reducible exact LeO.refl _)
   | (with_reducible exact LeO.none _)
   | (with_reducible refine LeO.ite ?_ ?_)
   | (with_reducible refine LeO.bind ?_ (fun _=>?_))
   | exact laws_toByS.mono _ _
   | exact laws_toColS.mono _ _
   | exact laws_toIndexS.mono _ _
   | exact LeO.none _
   | refine LeO.ite ?_ ?_
   | refine LeO.bind ?_ (fun _=>?_)
set_option maxHeartbeats 8000000 in
set_option maxRecDepth 100000 in
theorem laws_toDef.calls (k : Nat) (a0_0 : ByteArray) (A0_1 : Option Addr) (c0_1 : Nat) (l0_1 : List (S131)) (A0_2 : Option Addr) (c0_2 : Nat) (l0_2 : List (S137)) (A0_3 : Option Addr) (c0_3 : Nat) (l0_3 : List (S134)) (r1 : ByteArray) (r2 : List (S82)) (r3 : List (S85)) (r4 : List (S69)) (w : World) (hr0_1 : Kd.C k131 w A0_1 l0_1.length l0_1) (hc0_1 : l0_1.length ≤ c0_1) (hr0_2 : Kd.C k137 w A0_2 l0_2.length l0_2) (hc0_2 : l0_2.length ≤ c0_2) (hr0_3 : Kd.C k134 w A0_3 l0_3.length l0_3) (hc0_3 : l0_3.length ≤ c0_3) (h : laws_toDef.f k a0_0 l0_1 l0_2 l0_3 = some (r1,r2,r3,r4)) :
  Calls Tryd.prog 29 #[.agg #[.string a0_0,.slice A0_1 l0_1.length c0_1,.slice A0_2 l0_2.length c0_2,.slice A0_3 l0_3.length c0_3]] w fun e w'=>∃ v1_ v2_ v3_ : Value,e = .returned (.agg #[.string r1,v1_,v2_,v3_]) ∧ Kd.R k82 82 w' w.heap.size (fun _=>True) v1_ r2 ∧ Kd.R k85 85 w' w.heap.size (fun _=>True) v2_ r3 ∧ Kd.S k69 69 w' w.heap.size (fun k_=>some k_ ≠ (v2_ : Value).ownBlock) v3_ r4 ∧ Below w.heap.size w w':=by
 have hu46:=Tryd.underlying46
 have hu35:=Tryd.underlying35
 have HR0_1:=aM_ hr0_1
 have HC0_1:=aM_ hc0_1
 clear hr0_1 hc0_1
 have HR0_2:=aM_ hr0_2
 have HC0_2:=aM_ hc0_2
 clear hr0_2 hc0_2
 have HR0_3:=aM_ hr0_3
 have HC0_3:=aM_ hc0_3
 clear hr0_3 hc0_3
 have HB:=aM_ (Below.refl w.heap.size w)
 have H : ((laws_toColS.f k l0_1).bind fun t304=>((laws_toByS.f k l0_2).bind fun t307=>((laws_toIndexS.f k l0_3).bind fun t310=>(some (a0_0,t304,t307,t310))))) = some (r1,r2,r3,r4):=h
 clear h
 replace H:=oB_ H
 obtain ⟨t304,A20,H⟩:=H
 replace H : ((laws_toByS.f k l0_2).bind fun t307=>((laws_toIndexS.f k l0_3).bind fun t310=>(some (a0_0,t304,t307,t310)))) = some (r1,r2,r3,r4):=H
 have A2:=aM_ A20
 clear A20
 replace H:=oB_ H
 obtain ⟨t307,A30,H⟩:=H
 replace H : ((laws_toIndexS.f k l0_3).bind fun t310=>(some (a0_0,t304,t307,t310))) = some (r1,r2,r3,r4):=H
 have A3:=aM_ A30
 clear A30
 replace H:=oB_ H
 obtain ⟨t310,A40,H⟩:=H
 replace H : (some (a0_0,t304,t307,t310)) = some (r1,r2,r3,r4):=H
 have A4:=aM_ A40
 clear A40
 simp only [Option.some.injEq,Prod.mk.injEq] at H
 obtain ⟨rfl,rfl,rfl,rfl⟩:=H
 go_enter Tryd.func29,Tryd.ntmps29
 go_wp2_with (first | ((with_reducible refine gate_dst (N:=1) rfl ?_);refine box_event ?hg (N:=1) ?hd (cs:=#[.string a0_0,.slice A0_1 l0_1.length c0_1,.slice A0_2 l0_2.length c0_2,.slice A0_3 l0_3.length c0_3]) (t:=46) ?hr ?_;(case hd=>rfl);(case hg=>rfl);(case hr=>first | (go_simp;done) | (go_simp;rfl));intro gb301 hg w5 hbox hb;have n0_:=aM_ (bT_ (by exact bZ_ HB) hb);have n1_:=aM_ (hbox);have n2_:=aM_ ((by rw [hg];exact (bS_ (by exact bZ_ HB)) : w.heap.size ≤ gb301));have n3_:=aM_ ((by rw [hg];exact (bS_ (by exact bZ_ HB)) : w.heap.size ≤ gb301));clear HB;have HB:=n0_;have BK301:=n1_;have GW301:=n2_;have GE301:=n3_;clear n0_ n1_ n2_ n3_;clear hb hbox hg) | ((with_reducible refine gate_dst (N:=2) rfl ?_);refine box_event ?hg (N:=2) ?hd (cs:=#[.string (⟨#[]⟩ : ByteArray),.slice none 0 0,.slice none 0 0,.slice none 0 0]) (t:=35) ?hr ?_;(case hd=>rfl);(case hg=>rfl);(case hr=>first | (go_simp;done) | (go_simp;rfl));intro gb302 hg w6 hbox hb;have n0_:=aM_ (blk_below (g:=gb301) (o:=.cells #[.string a0_0,.slice A0_1 l0_1.length c0_1,.slice A0_2 l0_2.length c0_2,.slice A0_3 l0_3.length c0_3] 46 (0,0)) (by exact kZ_ BK301) hb);have n1_:=aM_ (bT_ (by exact bZ_ HB) hb);have n2_:=aM_ (hbox);have n3_:=aM_ ((by rw [hg];exact (bS_ (by exact bZ_ HB)) : w.heap.size ≤ gb302));have n4_:=aM_ ((by rw [hg];exact (bS_ (by exact bZ_ HB)) : w.heap.size ≤ gb302));have n5_:=aM_ ((by rw [hg];exact nN_ (blk_lt (g:=gb301) (o:=.cells #[.string a0_0,.slice A0_1 l0_1.length c0_1,.slice A0_2 l0_2.length c0_2,.slice A0_3 l0_3.length c0_3] 46 (0,0)) (by exact kZ_ BK301)) : gb301 ≠ gb302));have n6_:=aM_ ((by rw [hg];exact Nat.ne_of_gt (blk_lt (g:=gb301) (o:=.cells #[.string a0_0,.slice A0_1 l0_1.length c0_1,.slice A0_2 l0_2.length c0_2,.slice A0_3 l0_3.length c0_3] 46 (0,0)) (by exact kZ_ BK301)) : gb302 ≠ gb301));clear BK301;clear HB;have BK301:=n0_;have HB:=n1_;have BK302:=n2_;have GW302:=n3_;have GE302:=n4_;have NB301_302:=n5_;have NB302_301:=n6_;clear n0_ n1_ n2_ n3_ n4_ n5_ n6_;clear hb hbox hg) | ((with_reducible refine gate_dst (N:=3) rfl ?_);refine box_event ?hg (N:=3) ?hd (cs:=#[.string (⟨#[]⟩ : ByteArray),.slice none 0 0,.slice none 0 0,.slice none 0 0]) (t:=35) ?hr ?_;(case hd=>rfl);(case hg=>rfl);(case hr=>first | (go_simp;done) | (go_simp;rfl));intro gb303 hg w7 hbox hb;have n0_:=aM_ (blk_below (g:=gb301) (o:=.cells #[.string a0_0,.slice A0_1 l0_1.length c0_1,.slice A0_2 l0_2.length c0_2,.slice A0_3 l0_3.length c0_3] 46 (0,0)) (by exact kZ_ BK301) hb);have n1_:=aM_ (blk_below (g:=gb302) (o:=.cells #[.string (⟨#[]⟩ : ByteArray),.slice none 0 0,.slice none 0 0,.slice none 0 0] 35 (0,0)) (by exact kZ_ BK302) hb);have n2_:=aM_ (bT_ (by exact bZ_ HB) hb);have n3_:=aM_ (hbox);have n4_:=aM_ ((by rw [hg];exact (bS_ (by exact bZ_ HB)) : w.heap.size ≤ gb303));have n5_:=aM_ ((by rw [hg];exact (bS_ (by exact bZ_ HB)) : w.heap.size ≤ gb303));have n6_:=aM_ ((by rw [hg];exact nN_ (blk_lt (g:=gb301) (o:=.cells #[.string a0_0,.slice A0_1 l0_1.length c0_1,.slice A0_2 l0_2.length c0_2,.slice A0_3 l0_3.length c0_3] 46 (0,0)) (by exact kZ_ BK301)) : gb301 ≠ gb303));have n7_:=aM_ ((by rw [hg];exact Nat.ne_of_gt (blk_lt (g:=gb301) (o:=.cells #[.string a0_0,.slice A0_1 l0_1.length c0_1,.slice A0_2 l0_2.length c0_2,.slice A0_3 l0_3.length c0_3] 46 (0,0)) (by exact kZ_ BK301)) : gb303 ≠ gb301));have n8_:=aM_ ((by rw [hg];exact nN_ (blk_lt (g:=gb302) (o:=.cells #[.string (⟨#[]⟩ : ByteArray),.slice none 0 0,.slice none 0 0,.slice none 0 0] 35 (0,0)) (by exact kZ_ BK302)) : gb302 ≠ gb303));have n9_:=aM_ ((by rw [hg];exact Nat.ne_of_gt (blk_lt (g:=gb302) (o:=.cells #[.string (⟨#[]⟩ : ByteArray),.slice none 0 0,.slice none 0 0,.slice none 0 0] 35 (0,0)) (by exact kZ_ BK302)) : gb303 ≠ gb302));clear BK301;clear BK302;clear HB;have BK301:=n0_;have BK302:=n1_;have HB:=n2_;have BK303:=n3_;have GW303:=n4_;have GE303:=n5_;have NB301_303:=n6_;have NB303_301:=n7_;have NB302_303:=n8_;have NB303_302:=n9_;clear n0_ n1_ n2_ n3_ n4_ n5_ n6_ n7_ n8_ n9_;clear hb hbox hg;have hnb8:=NB301_302.out;have hnc8:=NB302_301.out;have hnb9:=NB301_303.out;have hnc9:=NB303_301.out;have hcz10_0 : w7.cell? ⟨gb301,0,none⟩ = some (.string a0_0):=(kC_ BK301.out 0).trans rfl;have hcz10_1 : w7.cell? ⟨gb301,1,none⟩ = some (.slice A0_1 l0_1.length c0_1):=(kC_ BK301.out 1).trans rfl;have hcz10_2 : w7.cell? ⟨gb301,2,none⟩ = some (.slice A0_2 l0_2.length c0_2):=(kC_ BK301.out 2).trans rfl;have hcz10_3 : w7.cell? ⟨gb301,3,none⟩ = some (.slice A0_3 l0_3.length c0_3):=(kC_ BK301.out 3).trans rfl;have hfz10_0:=kF_ BK301.out 0;have hfz10_1:=kF_ BK301.out 1;have hfz10_2:=kF_ BK301.out 2;have hfz10_3:=kF_ BK301.out 3;have hnb11:=NB303_302.out;have hnc11:=NB302_303.out;have hcz12_0 : w7.cell? ⟨gb303,0,none⟩ = some (.string (⟨#[]⟩ : ByteArray)):=(kC_ BK303.out 0).trans rfl;have hcz12_1 : w7.cell? ⟨gb303,1,none⟩ = some (.slice none 0 0):=(kC_ BK303.out 1).trans rfl;have hcz12_2 : w7.cell? ⟨gb303,2,none⟩ = some (.slice none 0 0):=(kC_ BK303.out 2).trans rfl;have hcz12_3 : w7.cell? ⟨gb303,3,none⟩ = some (.slice none 0 0):=(kC_ BK303.out 3).trans rfl;have hfz12_0:=kF_ BK303.out 0;have hfz12_1:=kF_ BK303.out 1;have hfz12_2:=kF_ BK303.out 2;have hfz12_3:=kF_ BK303.out 3) | ((with_reducible refine gate_callee (f:=73) rfl ?_);refine goesL_ (some 9) rfl rfl Tryd.func73 (by kernel_rfl) rfl #[.slice A0_1 l0_1.length c0_1] rfl (by (try simp only [mA_,mC_,mN_]);first | done | rfl | (simp only [lD_,lT_];rfl)) ?_;(with_reducible refine (laws_toColS.calls k _ _ l0_1 t304 _ ?side1 ?side2 A2.out).mono ?_);(case side1=>exact Kd.C_below HR0_1.out (by exact bZ_ HB));(case side2=>exact HC0_1.out);rintro e w13 ⟨v305,rfl,ho0,hb⟩;refine ⟨_,rfl,?_⟩;have n0_:=aM_ (Kd.R_lower ho0 (bS_ (by exact bZ_ HB)));have n1_:=aM_ (blk_below (g:=gb301) (o:=.cells #[.string a0_0,.slice A0_1 l0_1.length c0_1,.slice A0_2 l0_2.length c0_2,.slice A0_3 l0_3.length c0_3] 46 (0,0)) (by exact kW_ BK301) hb);have n2_:=aM_ (blk_below (g:=gb302) (o:=.cells #[.string (⟨#[]⟩ : ByteArray),.slice none 0 0,.slice none 0 0,.slice none 0 0] 35 (0,0)) (by exact kW_ BK302) hb);have n3_:=aM_ (blk_below (g:=gb303) (o:=.cells #[.string a0_0,.slice none 0 0,.slice none 0 0,.slice none 0 0] 35 (0,0)) (by (with_reducible repeat (first | refine kN_ ?_ _ | refine kD_ ?_ | refine kA_ ?_ _));refine kP_ (cs:=#[.string (⟨#[]⟩ : ByteArray),.slice none 0 0,.slice none 0 0,.slice none 0 0]) ?_ 0 _ rfl;exact kZ_ BK303) hb);have n4_:=aM_ (bT_ (by exact bZ_ HB) hb);clear BK301;clear BK302;clear BK303;clear HB;have HO306:=n0_;have BK301:=n1_;have BK302:=n2_;have BK303:=n3_;have HB:=n4_;clear n0_ n1_ n2_ n3_ n4_;(try clear hb);(try clear hb2);(try clear hk);(try clear hi);(try clear ho0);obtain ⟨Ao14,co14,eo14⟩:=Kd.R_slice HO306.out;subst eo14;have hcz15_0 : w13.cell? ⟨gb303,0,none⟩ = some (.string a0_0):=(kC_ BK303.out 0).trans rfl;have hcz15_1 : w13.cell? ⟨gb303,1,none⟩ = some (.slice none 0 0):=(kC_ BK303.out 1).trans rfl;have hcz15_2 : w13.cell? ⟨gb303,2,none⟩ = some (.slice none 0 0):=(kC_ BK303.out 2).trans rfl;have hcz15_3 : w13.cell? ⟨gb303,3,none⟩ = some (.slice none 0 0):=(kC_ BK303.out 3).trans rfl;have hfz15_0:=kF_ BK303.out 0;have hfz15_1:=kF_ BK303.out 1;have hfz15_2:=kF_ BK303.out 2;have hfz15_3:=kF_ BK303.out 3;have hcz16_0 : w13.cell? ⟨gb301,0,none⟩ = some (.string a0_0):=(kC_ BK301.out 0).trans rfl;have hcz16_1 : w13.cell? ⟨gb301,1,none⟩ = some (.slice A0_1 l0_1.length c0_1):=(kC_ BK301.out 1).trans rfl;have hcz16_2 : w13.cell? ⟨gb301,2,none⟩ = some (.slice A0_2 l0_2.length c0_2):=(kC_ BK301.out 2).trans rfl;have hcz16_3 : w13.cell? ⟨gb301,3,none⟩ = some (.slice A0_3 l0_3.length c0_3):=(kC_ BK301.out 3).trans rfl;have hfz16_0:=kF_ BK301.out 0;have hfz16_1:=kF_ BK301.out 1;have hfz16_2:=kF_ BK301.out 2;have hfz16_3:=kF_ BK301.out 3) | ((with_reducible refine gate_callee (f:=74) rfl ?_);refine goesL_ (some 13) rfl rfl Tryd.func74 (by kernel_rfl) rfl #[.slice A0_2 l0_2.length c0_2] rfl (by (try simp only [mA_,mC_,mN_]);first | done | rfl | (simp only [lD_,lT_];rfl)) ?_;(with_reducible refine (laws_toByS.calls k _ _ l0_2 t307 _ ?side1 ?side2 A3.out).mono ?_);(case side1=>exact Kd.C_below HR0_2.out (by exact bZ_ HB));(case side2=>exact HC0_2.out);rintro e w17 ⟨v308,rfl,ho0,hb⟩;refine ⟨_,rfl,?_⟩;have n0_:=aM_ (Kd.R_below (by (with_reducible repeat (first | apply rA_ | apply rN_ | apply rD_));exact (Kd.R_mono (Kd.R_far (p:=⟨gb303,1,none⟩) (Kd.R_types HO306.out BK303.out (by decide)) (fun _ hk=>hk.2) (.slice Ao14 t304.length co14)) (fun _ h_=>h_.1))) hb);have n1_:=aM_ (Kd.R_lower ho0 (bS_ (by exact bZ_ HB)));have n2_:=aM_ (blk_below (g:=gb301) (o:=.cells #[.string a0_0,.slice A0_1 l0_1.length c0_1,.slice A0_2 l0_2.length c0_2,.slice A0_3 l0_3.length c0_3] 46 (0,0)) (by exact kW_ BK301) hb);have n3_:=aM_ (blk_below (g:=gb302) (o:=.cells #[.string (⟨#[]⟩ : ByteArray),.slice none 0 0,.slice none 0 0,.slice none 0 0] 35 (0,0)) (by exact kW_ BK302) hb);have n4_:=aM_ (blk_below (g:=gb303) (o:=.cells #[.string a0_0,.slice Ao14 t304.length co14,.slice none 0 0,.slice none 0 0] 35 (0,0)) (by (with_reducible repeat (first | refine kN_ ?_ _ | refine kD_ ?_ | refine kA_ ?_ _));refine kP_ (cs:=#[.string a0_0,.slice none 0 0,.slice none 0 0,.slice none 0 0]) ?_ 1 _ rfl;exact kZ_ BK303) hb);have n5_:=aM_ (bT_ (by exact bZ_ HB) hb);clear HO306;clear BK301;clear BK302;clear BK303;clear HB;have HO306:=n0_;have HO309:=n1_;have BK301:=n2_;have BK302:=n3_;have BK303:=n4_;have HB:=n5_;clear n0_ n1_ n2_ n3_ n4_ n5_;(try clear hb);(try clear hb2);(try clear hk);(try clear hi);(try clear ho0);obtain ⟨Ao18,co18,eo18⟩:=Kd.R_slice HO309.out;subst eo18;have hcz19_0 : w17.cell? ⟨gb303,0,none⟩ = some (.string a0_0):=(kC_ BK303.out 0).trans rfl;have hcz19_1 : w17.cell? ⟨gb303,1,none⟩ = some (.slice Ao14 t304.length co14):=(kC_ BK303.out 1).trans rfl;have hcz19_2 : w17.cell? ⟨gb303,2,none⟩ = some (.slice none 0 0):=(kC_ BK303.out 2).trans rfl;have hcz19_3 : w17.cell? ⟨gb303,3,none⟩ = some (.slice none 0 0):=(kC_ BK303.out 3).trans rfl;have hfz19_0:=kF_ BK303.out 0;have hfz19_1:=kF_ BK303.out 1;have hfz19_2:=kF_ BK303.out 2;have hfz19_3:=kF_ BK303.out 3;have hcz20_0 : w17.cell? ⟨gb301,0,none⟩ = some (.string a0_0):=(kC_ BK301.out 0).trans rfl;have hcz20_1 : w17.cell? ⟨gb301,1,none⟩ = some (.slice A0_1 l0_1.length c0_1):=(kC_ BK301.out 1).trans rfl;have hcz20_2 : w17.cell? ⟨gb301,2,none⟩ = some (.slice A0_2 l0_2.length c0_2):=(kC_ BK301.out 2).trans rfl;have hcz20_3 : w17.cell? ⟨gb301,3,none⟩ = some (.slice A0_3 l0_3.length c0_3):=(kC_ BK301.out 3).trans rfl;have hfz20_0:=kF_ BK301.out 0;have hfz20_1:=kF_ BK301.out 1;have hfz20_2:=kF_ BK301.out 2;have hfz20_3:=kF_ BK301.out 3) | ((with_reducible refine gate_callee (f:=75) rfl ?_);refine goesL_ (some 17) rfl rfl Tryd.func75 (by kernel_rfl) rfl #[.slice A0_3 l0_3.length c0_3] rfl (by (try simp only [mA_,mC_,mN_]);first | done | rfl | (simp only [lD_,lT_];rfl)) ?_;(with_reducible refine (laws_toIndexS.calls k _ _ l0_3 t310 _ ?side1 ?side2 A4.out).mono ?_);(case side1=>exact Kd.C_below HR0_3.out (by exact bZ_ HB));(case side2=>exact HC0_3.out);rintro e w21 ⟨v311,rfl,ho0,hb⟩;refine ⟨_,rfl,?_⟩;have n0_:=aM_ (Kd.R_below (by (with_reducible repeat (first | apply rA_ | apply rN_ | apply rD_));exact (Kd.R_mono (Kd.R_far (p:=⟨gb303,2,none⟩) (Kd.R_types HO306.out BK303.out (by decide)) (fun _ hk=>hk.2) (.slice Ao18 t307.length co18)) (fun _ h_=>h_.1))) hb);have n1_:=aM_ (Kd.R_below (by (with_reducible repeat (first | apply rA_ | apply rN_ | apply rD_));exact (Kd.R_mono (Kd.R_far (p:=⟨gb303,2,none⟩) (Kd.R_types HO309.out BK303.out (by decide)) (fun _ hk=>hk.2) (.slice Ao18 t307.length co18)) (fun _ h_=>h_.1))) hb);have n2_:=aM_ (Kd.S_lower (Kd.S_new' ho0 (Kd.R_lt (by (with_reducible repeat (first | apply rA_ | apply rN_ | apply rD_));exact (Kd.R_mono (Kd.R_far (p:=⟨gb303,2,none⟩) (Kd.R_types HO309.out BK303.out (by decide)) (fun _ hk=>hk.2) (.slice Ao18 t307.length co18)) (fun _ h_=>h_.1))))) (bS_ (by exact bZ_ HB)));have n3_:=aM_ (blk_below (g:=gb301) (o:=.cells #[.string a0_0,.slice A0_1 l0_1.length c0_1,.slice A0_2 l0_2.length c0_2,.slice A0_3 l0_3.length c0_3] 46 (0,0)) (by exact kW_ BK301) hb);have n4_:=aM_ (blk_below (g:=gb302) (o:=.cells #[.string (⟨#[]⟩ : ByteArray),.slice none 0 0,.slice none 0 0,.slice none 0 0] 35 (0,0)) (by exact kW_ BK302) hb);have n5_:=aM_ (blk_below (g:=gb303) (o:=.cells #[.string a0_0,.slice Ao14 t304.length co14,.slice Ao18 t307.length co18,.slice none 0 0] 35 (0,0)) (by (with_reducible repeat (first | refine kN_ ?_ _ | refine kD_ ?_ | refine kA_ ?_ _));refine kP_ (cs:=#[.string a0_0,.slice Ao14 t304.length co14,.slice none 0 0,.slice none 0 0]) ?_ 2 _ rfl;exact kZ_ BK303) hb);have n6_:=aM_ (bT_ (by exact bZ_ HB) hb);clear HO306;clear HO309;clear BK301;clear BK302;clear BK303;clear HB;have HO306:=n0_;have HO309:=n1_;have HO312:=n2_;have BK301:=n3_;have BK302:=n4_;have BK303:=n5_;have HB:=n6_;clear n0_ n1_ n2_ n3_ n4_ n5_ n6_;(try clear hb);(try clear hb2);(try clear hk);(try clear hi);(try clear ho0);obtain ⟨Ao22,co22,eo22⟩:=Kd.S_slice HO312.out;subst eo22;have hcz23_0 : w21.cell? ⟨gb303,0,none⟩ = some (.string a0_0):=(kC_ BK303.out 0).trans rfl;have hcz23_1 : w21.cell? ⟨gb303,1,none⟩ = some (.slice Ao14 t304.length co14):=(kC_ BK303.out 1).trans rfl;have hcz23_2 : w21.cell? ⟨gb303,2,none⟩ = some (.slice Ao18 t307.length co18):=(kC_ BK303.out 2).trans rfl;have hcz23_3 : w21.cell? ⟨gb303,3,none⟩ = some (.slice none 0 0):=(kC_ BK303.out 3).trans rfl;have hfz23_0:=kF_ BK303.out 0;have hfz23_1:=kF_ BK303.out 1;have hfz23_2:=kF_ BK303.out 2;have hfz23_3:=kF_ BK303.out 3;have hcz24_0 : w21.cell? ⟨gb302,0,none⟩ = some (.string (⟨#[]⟩ : ByteArray)):=(kC_ BK302.out 0).trans rfl;have hcz24_1 : w21.cell? ⟨gb302,1,none⟩ = some (.slice none 0 0):=(kC_ BK302.out 1).trans rfl;have hcz24_2 : w21.cell? ⟨gb302,2,none⟩ = some (.slice none 0 0):=(kC_ BK302.out 2).trans rfl;have hcz24_3 : w21.cell? ⟨gb302,3,none⟩ = some (.slice none 0 0):=(kC_ BK302.out 3).trans rfl;have hfz24_0:=kF_ BK302.out 0;have hfz24_1:=kF_ BK302.out 1;have hfz24_2:=kF_ BK302.out 2;have hfz24_3:=kF_ BK302.out 3))
 refine bodyPost_ret (results_cell_row rfl _ _ gb302 35 #[.string a0_0,.slice Ao14 t304.length co14,.slice Ao18 t307.length co18,.slice Ao22 t310.length co22] (0,0) _ rfl (by (with_reducible repeat (first | refine kN_ ?_ _ | refine kD_ ?_ | refine kA_ ?_ _));refine kP_ (cs:=#[.string a0_0,.slice Ao14 t304.length co14,.slice Ao18 t307.length co18,.slice none 0 0]) ?_ 3 _ rfl;(with_reducible repeat (first | refine kN_ ?_ _ | refine kD_ ?_ | refine kA_ ?_ _));refine kP_ (cs:=#[.string a0_0,.slice Ao14 t304.length co14,.slice none 0 0,.slice none 0 0]) ?_ 2 _ rfl;(with_reducible repeat (first | refine kN_ ?_ _ | refine kD_ ?_ | refine kA_ ?_ _));refine kP_ (cs:=#[.string a0_0,.slice none 0 0,.slice none 0 0,.slice none 0 0]) ?_ 1 _ rfl;(with_reducible repeat (first | refine kN_ ?_ _ | refine kD_ ?_ | refine kA_ ?_ _));refine kP_ (cs:=#[.string (⟨#[]⟩ : ByteArray),.slice none 0 0,.slice none 0 0,.slice none 0 0]) ?_ 0 _ rfl;exact kW_ BK302) Tryd.underlying35 rfl (by kernel_rfl)) rfl ?_
 exact ⟨_,_,_,by first | rfl | (simp [errW_none,errW_some] <;> rfl) | (simp [*, errW_none,errW_some] <;> rfl),by (with_reducible repeat (first | apply rA_ | apply rN_ | apply rD_));exact Kd.R_mono (Kd.R_far (p:=⟨gb302,3,none⟩) (Kd.R_far (p:=⟨gb302,2,none⟩) (Kd.R_far (p:=⟨gb302,1,none⟩) (Kd.R_far (p:=⟨gb302,0,none⟩) (Kd.R_far (p:=⟨gb303,3,none⟩) (Kd.R_types (Kd.R_types HO306.out BK303.out (by decide)) BK302.out (by decide)) (fun _ hk=>hk.1.2) (.slice Ao22 t310.length co22)) (fun _ hk=>hk.2) (.string a0_0)) (fun _ hk=>hk.2) (.slice Ao14 t304.length co14)) (fun _ hk=>hk.2) (.slice Ao18 t307.length co18)) (fun _ hk=>hk.2) (.slice Ao22 t310.length co22)) (fun _ hk=>trivial),by (with_reducible repeat (first | apply rA_ | apply rN_ | apply rD_));exact Kd.R_mono (Kd.R_far (p:=⟨gb302,3,none⟩) (Kd.R_far (p:=⟨gb302,2,none⟩) (Kd.R_far (p:=⟨gb302,1,none⟩) (Kd.R_far (p:=⟨gb302,0,none⟩) (Kd.R_far (p:=⟨gb303,3,none⟩) (Kd.R_types (Kd.R_types HO309.out BK303.out (by decide)) BK302.out (by decide)) (fun _ hk=>hk.1.2) (.slice Ao22 t310.length co22)) (fun _ hk=>hk.2) (.string a0_0)) (fun _ hk=>hk.2) (.slice Ao14 t304.length co14)) (fun _ hk=>hk.2) (.slice Ao18 t307.length co18)) (fun _ hk=>hk.2) (.slice Ao22 t310.length co22)) (fun _ hk=>trivial),by (with_reducible repeat (first | apply Kd.S_alloc | apply Kd.S_drewN | apply Kd.S_drew));exact Kd.S_mono (Kd.S_far (p:=⟨gb302,3,none⟩) (Kd.S_far (p:=⟨gb302,2,none⟩) (Kd.S_far (p:=⟨gb302,1,none⟩) (Kd.S_far (p:=⟨gb302,0,none⟩) (Kd.S_far (p:=⟨gb303,3,none⟩) (Kd.S_types (Kd.S_types HO312.out BK303.out (by decide)) BK302.out (by decide)) (fun _ hk=>hk.1.2) (.slice Ao22 t310.length co22)) (fun _ hk=>hk.2) (.string a0_0)) (fun _ hk=>hk.2) (.slice Ao14 t304.length co14)) (fun _ hk=>hk.2) (.slice Ao18 t307.length co18)) (fun _ hk=>hk.2) (.slice Ao22 t310.length co22)) (fun _ hk=>hk.1.1.2),by exact bZ_ HB⟩
def laws_eqCol.f (a0_0 : ByteArray) (a0_1 : Int) (a0_2 : Bool) (a1_0 : ByteArray) (a1_1 : Int) (a1_2 : Bool) : Option (Bool):=if a0_0.toList = a1_0.toList then (if a0_1 = a1_1 then (if (a0_2 != a1_2) = true then (some false) else (some true)) else (some false)) else (some false)
set_option maxHeartbeats 8000000 in
set_option maxRecDepth 100000 in
theorem laws_eqCol.calls (a0_0 : ByteArray) (a0_1 : Int) (a0_2 : Bool) (a1_0 : ByteArray) (a1_1 : Int) (a1_2 : Bool) (r : Bool) (w : World) (h : laws_eqCol.f a0_0 a0_1 a0_2 a1_0 a1_1 a1_2 = some r) :
  Calls Tryd.prog 117 #[.agg #[.string a0_0,.int .i64 a0_1,.bool a0_2],.agg #[.string a1_0,.int .i64 a1_1,.bool a1_2]] w fun e w'=>e = .returned (.bool r) ∧ Below w.heap.size w w':=by
 have hu82:=Tryd.underlying82
 have HB:=aM_ (Below.refl w.heap.size w)
 have H : (if a0_0.toList = a1_0.toList then (if a0_1 = a1_1 then (if (a0_2 != a1_2) = true then (some false) else (some true)) else (some false)) else (some false)) = some r:=h
 clear h
 by_cases c3 : a0_0.toList = a1_0.toList
 ·rw [if_pos c3] at H
  have c3b0 : (a0_0.toList == a1_0.toList) = true:=beq_iff_eq.mpr c3
  have c3b1 : (a0_0.toList != a1_0.toList) = false:=bne_eq_false_iff_eq.mpr c3
  clear c3
  by_cases c4 : a0_1 = a1_1
  ·rw [if_pos c4] at H
   have c4b0 : (a0_1 == a1_1) = true:=beq_iff_eq.mpr c4
   have c4b1 : (a0_1 != a1_1) = false:=bne_eq_false_iff_eq.mpr c4
   clear c4
   by_cases c5 : (a0_2 != a1_2) = true
   ·rw [if_pos c5] at H
    have c5b0 : (a0_2 != a1_2) = true:=c5
    (try (have c5b1 : decide (a0_2 = a1_2) = false:=by simpa using c5))
    (try (have c5b2 : (a0_2 == a1_2) = false:=by simpa using c5))
    (try (have c5b3 : ¬ (a0_2 = a1_2):=by simpa using c5))
    clear c5
    obtain rfl:=Option.some.inj H
    go_enter Tryd.func117,Tryd.ntmps117
    go_wp2_with (first | ((with_reducible refine gate_dst (N:=2) rfl ?_);refine box_event ?hg (N:=2) ?hd (cs:=#[.string a0_0,.int .i64 a0_1,.bool a0_2]) (t:=82) ?hr ?_;(case hd=>rfl);(case hg=>rfl);(case hr=>first | (go_simp;done) | (go_simp;rfl));intro gb313 hg w6 hbox hb;have n0_:=aM_ (bT_ (by exact bZ_ HB) hb);have n1_:=aM_ (hbox);have n2_:=aM_ ((by rw [hg];exact (bS_ (by exact bZ_ HB)) : w.heap.size ≤ gb313));have n3_:=aM_ ((by rw [hg];exact (bS_ (by exact bZ_ HB)) : w.heap.size ≤ gb313));clear HB;have HB:=n0_;have BK313:=n1_;have GW313:=n2_;have GE313:=n3_;clear n0_ n1_ n2_ n3_;clear hb hbox hg) | ((with_reducible refine gate_dst (N:=3) rfl ?_);refine box_event ?hg (N:=3) ?hd (cs:=#[.string a1_0,.int .i64 a1_1,.bool a1_2]) (t:=82) ?hr ?_;(case hd=>rfl);(case hg=>rfl);(case hr=>first | (go_simp;done) | (go_simp;rfl));intro gb314 hg w7 hbox hb;have n0_:=aM_ (blk_below (g:=gb313) (o:=.cells #[.string a0_0,.int .i64 a0_1,.bool a0_2] 82 (0,0)) (by exact kZ_ BK313) hb);have n1_:=aM_ (bT_ (by exact bZ_ HB) hb);have n2_:=aM_ (hbox);have n3_:=aM_ ((by rw [hg];exact (bS_ (by exact bZ_ HB)) : w.heap.size ≤ gb314));have n4_:=aM_ ((by rw [hg];exact (bS_ (by exact bZ_ HB)) : w.heap.size ≤ gb314));have n5_:=aM_ ((by rw [hg];exact nN_ (blk_lt (g:=gb313) (o:=.cells #[.string a0_0,.int .i64 a0_1,.bool a0_2] 82 (0,0)) (by exact kZ_ BK313)) : gb313 ≠ gb314));have n6_:=aM_ ((by rw [hg];exact Nat.ne_of_gt (blk_lt (g:=gb313) (o:=.cells #[.string a0_0,.int .i64 a0_1,.bool a0_2] 82 (0,0)) (by exact kZ_ BK313)) : gb314 ≠ gb313));clear BK313;clear HB;have BK313:=n0_;have HB:=n1_;have BK314:=n2_;have GW314:=n3_;have GE314:=n4_;have NB313_314:=n5_;have NB314_313:=n6_;clear n0_ n1_ n2_ n3_ n4_ n5_ n6_;clear hb hbox hg;have hnb8:=NB313_314.out;have hnc8:=NB314_313.out;have hcz9_0 : w7.cell? ⟨gb313,0,none⟩ = some (.string a0_0):=(kC_ BK313.out 0).trans rfl;have hcz9_1 : w7.cell? ⟨gb313,1,none⟩ = some (.int .i64 a0_1):=(kC_ BK313.out 1).trans rfl;have hcz9_2 : w7.cell? ⟨gb313,2,none⟩ = some (.bool a0_2):=(kC_ BK313.out 2).trans rfl;have hfz9_0:=kF_ BK313.out 0;have hfz9_1:=kF_ BK313.out 1;have hfz9_2:=kF_ BK313.out 2;have hcz10_0 : w7.cell? ⟨gb314,0,none⟩ = some (.string a1_0):=(kC_ BK314.out 0).trans rfl;have hcz10_1 : w7.cell? ⟨gb314,1,none⟩ = some (.int .i64 a1_1):=(kC_ BK314.out 1).trans rfl;have hcz10_2 : w7.cell? ⟨gb314,2,none⟩ = some (.bool a1_2):=(kC_ BK314.out 2).trans rfl;have hfz10_0:=kF_ BK314.out 0;have hfz10_1:=kF_ BK314.out 1;have hfz10_2:=kF_ BK314.out 2))
    go_ret
    exact ⟨by first | rfl | (simp [errW_none,errW_some] <;> rfl) | (simp [*, errW_none,errW_some] <;> rfl),by exact bZ_ HB⟩
   ·rw [if_neg c5] at H
    have c5b0 : (a0_2 != a1_2) = false:=by simpa using c5
    (try (have c5b1 : decide (a0_2 = a1_2) = true:=by simpa using c5))
    (try (have c5b2 : (a0_2 == a1_2) = true:=by simpa using c5))
    clear c5
    obtain rfl:=Option.some.inj H
    go_enter Tryd.func117,Tryd.ntmps117
    go_wp2_with (first | ((with_reducible refine gate_dst (N:=2) rfl ?_);refine box_event ?hg (N:=2) ?hd (cs:=#[.string a0_0,.int .i64 a0_1,.bool a0_2]) (t:=82) ?hr ?_;(case hd=>rfl);(case hg=>rfl);(case hr=>first | (go_simp;done) | (go_simp;rfl));intro gb313 hg w11 hbox hb;have n0_:=aM_ (bT_ (by exact bZ_ HB) hb);have n1_:=aM_ (hbox);have n2_:=aM_ ((by rw [hg];exact (bS_ (by exact bZ_ HB)) : w.heap.size ≤ gb313));have n3_:=aM_ ((by rw [hg];exact (bS_ (by exact bZ_ HB)) : w.heap.size ≤ gb313));clear HB;have HB:=n0_;have BK313:=n1_;have GW313:=n2_;have GE313:=n3_;clear n0_ n1_ n2_ n3_;clear hb hbox hg) | ((with_reducible refine gate_dst (N:=3) rfl ?_);refine box_event ?hg (N:=3) ?hd (cs:=#[.string a1_0,.int .i64 a1_1,.bool a1_2]) (t:=82) ?hr ?_;(case hd=>rfl);(case hg=>rfl);(case hr=>first | (go_simp;done) | (go_simp;rfl));intro gb314 hg w12 hbox hb;have n0_:=aM_ (blk_below (g:=gb313) (o:=.cells #[.string a0_0,.int .i64 a0_1,.bool a0_2] 82 (0,0)) (by exact kZ_ BK313) hb);have n1_:=aM_ (bT_ (by exact bZ_ HB) hb);have n2_:=aM_ (hbox);have n3_:=aM_ ((by rw [hg];exact (bS_ (by exact bZ_ HB)) : w.heap.size ≤ gb314));have n4_:=aM_ ((by rw [hg];exact (bS_ (by exact bZ_ HB)) : w.heap.size ≤ gb314));have n5_:=aM_ ((by rw [hg];exact nN_ (blk_lt (g:=gb313) (o:=.cells #[.string a0_0,.int .i64 a0_1,.bool a0_2] 82 (0,0)) (by exact kZ_ BK313)) : gb313 ≠ gb314));have n6_:=aM_ ((by rw [hg];exact Nat.ne_of_gt (blk_lt (g:=gb313) (o:=.cells #[.string a0_0,.int .i64 a0_1,.bool a0_2] 82 (0,0)) (by exact kZ_ BK313)) : gb314 ≠ gb313));clear BK313;clear HB;have BK313:=n0_;have HB:=n1_;have BK314:=n2_;have GW314:=n3_;have GE314:=n4_;have NB313_314:=n5_;have NB314_313:=n6_;clear n0_ n1_ n2_ n3_ n4_ n5_ n6_;clear hb hbox hg;have hnb13:=NB313_314.out;have hnc13:=NB314_313.out;have hcz14_0 : w12.cell? ⟨gb313,0,none⟩ = some (.string a0_0):=(kC_ BK313.out 0).trans rfl;have hcz14_1 : w12.cell? ⟨gb313,1,none⟩ = some (.int .i64 a0_1):=(kC_ BK313.out 1).trans rfl;have hcz14_2 : w12.cell? ⟨gb313,2,none⟩ = some (.bool a0_2):=(kC_ BK313.out 2).trans rfl;have hfz14_0:=kF_ BK313.out 0;have hfz14_1:=kF_ BK313.out 1;have hfz14_2:=kF_ BK313.out 2;have hcz15_0 : w12.cell? ⟨gb314,0,none⟩ = some (.string a1_0):=(kC_ BK314.out 0).trans rfl;have hcz15_1 : w12.cell? ⟨gb314,1,none⟩ = some (.int .i64 a1_1):=(kC_ BK314.out 1).trans rfl;have hcz15_2 : w12.cell? ⟨gb314,2,none⟩ = some (.bool a1_2):=(kC_ BK314.out 2).trans rfl;have hfz15_0:=kF_ BK314.out 0;have hfz15_1:=kF_ BK314.out 1;have hfz15_2:=kF_ BK314.out 2))
    go_ret
    exact ⟨by first | rfl | (simp [errW_none,errW_some] <;> rfl) | (simp [*, errW_none,errW_some] <;> rfl),by exact bZ_ HB⟩
  ·rw [if_neg c4] at H
   have c4b0 : (a0_1 == a1_1) = false:=beq_eq_false_iff_ne.mpr c4
   have c4b1 : (a0_1 != a1_1) = true:=bne_iff_ne.mpr c4
   obtain rfl:=Option.some.inj H
   go_enter Tryd.func117,Tryd.ntmps117
   go_wp2_with (first | ((with_reducible refine gate_dst (N:=2) rfl ?_);refine box_event ?hg (N:=2) ?hd (cs:=#[.string a0_0,.int .i64 a0_1,.bool a0_2]) (t:=82) ?hr ?_;(case hd=>rfl);(case hg=>rfl);(case hr=>first | (go_simp;done) | (go_simp;rfl));intro gb313 hg w16 hbox hb;have n0_:=aM_ (bT_ (by exact bZ_ HB) hb);have n1_:=aM_ (hbox);have n2_:=aM_ ((by rw [hg];exact (bS_ (by exact bZ_ HB)) : w.heap.size ≤ gb313));have n3_:=aM_ ((by rw [hg];exact (bS_ (by exact bZ_ HB)) : w.heap.size ≤ gb313));clear HB;have HB:=n0_;have BK313:=n1_;have GW313:=n2_;have GE313:=n3_;clear n0_ n1_ n2_ n3_;clear hb hbox hg) | ((with_reducible refine gate_dst (N:=3) rfl ?_);refine box_event ?hg (N:=3) ?hd (cs:=#[.string a1_0,.int .i64 a1_1,.bool a1_2]) (t:=82) ?hr ?_;(case hd=>rfl);(case hg=>rfl);(case hr=>first | (go_simp;done) | (go_simp;rfl));intro gb314 hg w17 hbox hb;have n0_:=aM_ (blk_below (g:=gb313) (o:=.cells #[.string a0_0,.int .i64 a0_1,.bool a0_2] 82 (0,0)) (by exact kZ_ BK313) hb);have n1_:=aM_ (bT_ (by exact bZ_ HB) hb);have n2_:=aM_ (hbox);have n3_:=aM_ ((by rw [hg];exact (bS_ (by exact bZ_ HB)) : w.heap.size ≤ gb314));have n4_:=aM_ ((by rw [hg];exact (bS_ (by exact bZ_ HB)) : w.heap.size ≤ gb314));have n5_:=aM_ ((by rw [hg];exact nN_ (blk_lt (g:=gb313) (o:=.cells #[.string a0_0,.int .i64 a0_1,.bool a0_2] 82 (0,0)) (by exact kZ_ BK313)) : gb313 ≠ gb314));have n6_:=aM_ ((by rw [hg];exact Nat.ne_of_gt (blk_lt (g:=gb313) (o:=.cells #[.string a0_0,.int .i64 a0_1,.bool a0_2] 82 (0,0)) (by exact kZ_ BK313)) : gb314 ≠ gb313));clear BK313;clear HB;have BK313:=n0_;have HB:=n1_;have BK314:=n2_;have GW314:=n3_;have GE314:=n4_;have NB313_314:=n5_;have NB314_313:=n6_;clear n0_ n1_ n2_ n3_ n4_ n5_ n6_;clear hb hbox hg;have hnb18:=NB313_314.out;have hnc18:=NB314_313.out;have hcz19_0 : w17.cell? ⟨gb313,0,none⟩ = some (.string a0_0):=(kC_ BK313.out 0).trans rfl;have hcz19_1 : w17.cell? ⟨gb313,1,none⟩ = some (.int .i64 a0_1):=(kC_ BK313.out 1).trans rfl;have hcz19_2 : w17.cell? ⟨gb313,2,none⟩ = some (.bool a0_2):=(kC_ BK313.out 2).trans rfl;have hfz19_0:=kF_ BK313.out 0;have hfz19_1:=kF_ BK313.out 1;have hfz19_2:=kF_ BK313.out 2;have hcz20_0 : w17.cell? ⟨gb314,0,none⟩ = some (.string a1_0):=(kC_ BK314.out 0).trans rfl;have hcz20_1 : w17.cell? ⟨gb314,1,none⟩ = some (.int .i64 a1_1):=(kC_ BK314.out 1).trans rfl;have hcz20_2 : w17.cell? ⟨gb314,2,none⟩ = some (.bool a1_2):=(kC_ BK314.out 2).trans rfl;have hfz20_0:=kF_ BK314.out 0;have hfz20_1:=kF_ BK314.out 1;have hfz20_2:=kF_ BK314.out 2))
   go_ret
   exact ⟨by first | rfl | (simp [errW_none,errW_some] <;> rfl) | (simp [*, errW_none,errW_some] <;> rfl),by exact bZ_ HB⟩
 ·rw [if_neg c3] at H
  have c3b0 : (a0_0.toList == a1_0.toList) = false:=beq_eq_false_iff_ne.mpr c3
  have c3b1 : (a0_0.toList != a1_0.toList) = true:=bne_iff_ne.mpr c3
  obtain rfl:=Option.some.inj H
  go_enter Tryd.func117,Tryd.ntmps117
  go_wp2_with (first | ((with_reducible refine gate_dst (N:=2) rfl ?_);refine box_event ?hg (N:=2) ?hd (cs:=#[.string a0_0,.int .i64 a0_1,.bool a0_2]) (t:=82) ?hr ?_;(case hd=>rfl);(case hg=>rfl);(case hr=>first | (go_simp;done) | (go_simp;rfl));intro gb313 hg w21 hbox hb;have n0_:=aM_ (bT_ (by exact bZ_ HB) hb);have n1_:=aM_ (hbox);have n2_:=aM_ ((by rw [hg];exact (bS_ (by exact bZ_ HB)) : w.heap.size ≤ gb313));have n3_:=aM_ ((by rw [hg];exact (bS_ (by exact bZ_ HB)) : w.heap.size ≤ gb313));clear HB;have HB:=n0_;have BK313:=n1_;have GW313:=n2_;have GE313:=n3_;clear n0_ n1_ n2_ n3_;clear hb hbox hg) | ((with_reducible refine gate_dst (N:=3) rfl ?_);refine box_event ?hg (N:=3) ?hd (cs:=#[.string a1_0,.int .i64 a1_1,.bool a1_2]) (t:=82) ?hr ?_;(case hd=>rfl);(case hg=>rfl);(case hr=>first | (go_simp;done) | (go_simp;rfl));intro gb314 hg w22 hbox hb;have n0_:=aM_ (blk_below (g:=gb313) (o:=.cells #[.string a0_0,.int .i64 a0_1,.bool a0_2] 82 (0,0)) (by exact kZ_ BK313) hb);have n1_:=aM_ (bT_ (by exact bZ_ HB) hb);have n2_:=aM_ (hbox);have n3_:=aM_ ((by rw [hg];exact (bS_ (by exact bZ_ HB)) : w.heap.size ≤ gb314));have n4_:=aM_ ((by rw [hg];exact (bS_ (by exact bZ_ HB)) : w.heap.size ≤ gb314));have n5_:=aM_ ((by rw [hg];exact nN_ (blk_lt (g:=gb313) (o:=.cells #[.string a0_0,.int .i64 a0_1,.bool a0_2] 82 (0,0)) (by exact kZ_ BK313)) : gb313 ≠ gb314));have n6_:=aM_ ((by rw [hg];exact Nat.ne_of_gt (blk_lt (g:=gb313) (o:=.cells #[.string a0_0,.int .i64 a0_1,.bool a0_2] 82 (0,0)) (by exact kZ_ BK313)) : gb314 ≠ gb313));clear BK313;clear HB;have BK313:=n0_;have HB:=n1_;have BK314:=n2_;have GW314:=n3_;have GE314:=n4_;have NB313_314:=n5_;have NB314_313:=n6_;clear n0_ n1_ n2_ n3_ n4_ n5_ n6_;clear hb hbox hg;have hnb23:=NB313_314.out;have hnc23:=NB314_313.out;have hcz24_0 : w22.cell? ⟨gb313,0,none⟩ = some (.string a0_0):=(kC_ BK313.out 0).trans rfl;have hcz24_1 : w22.cell? ⟨gb313,1,none⟩ = some (.int .i64 a0_1):=(kC_ BK313.out 1).trans rfl;have hcz24_2 : w22.cell? ⟨gb313,2,none⟩ = some (.bool a0_2):=(kC_ BK313.out 2).trans rfl;have hfz24_0:=kF_ BK313.out 0;have hfz24_1:=kF_ BK313.out 1;have hfz24_2:=kF_ BK313.out 2;have hcz25_0 : w22.cell? ⟨gb314,0,none⟩ = some (.string a1_0):=(kC_ BK314.out 0).trans rfl;have hcz25_1 : w22.cell? ⟨gb314,1,none⟩ = some (.int .i64 a1_1):=(kC_ BK314.out 1).trans rfl;have hcz25_2 : w22.cell? ⟨gb314,2,none⟩ = some (.bool a1_2):=(kC_ BK314.out 2).trans rfl;have hfz25_0:=kF_ BK314.out 0;have hfz25_1:=kF_ BK314.out 1;have hfz25_2:=kF_ BK314.out 2))
  go_ret
  exact ⟨by first | rfl | (simp [errW_none,errW_some] <;> rfl) | (simp [*, errW_none,errW_some] <;> rfl),by exact bZ_ HB⟩
def laws_eqColS.l0 : Nat → List (S82) → List (S82) → Int → Option (Bool)
 | 0,_,_,_=>none
 | k + 1,x0,x1,x5=>if x5 < (x0.length : Int) then (if 0 ≤ x5 then (if x5 < (x1.length : Int) then ((laws_eqCol.f ((rd_T82 x0 x5).f0) ((rd_T82 x0 x5).f1) ((rd_T82 x0 x5).f2) ((rd_T82 x1 x5).f0) ((rd_T82 x1 x5).f1) ((rd_T82 x1 x5).f2)).bind fun t317=>(if t317 = true then (laws_eqColS.l0 k x0 x1 (wrap64 (x5 + 1))) else (some false))) else (none)) else (none)) else (some true)
def laws_eqColS.f (k : Nat) (l0 : List (S82)) (l1 : List (S82)) : Option (Bool):=if (l0.length : Int) = (l1.length : Int) then (laws_eqColS.l0 k l0 l1 0) else (some false)
theorem laws_eqColS.mono_l : ∀ k,(∀ y0 y1 y2,LeO (laws_eqColS.l0 k y0 y1 y2) (laws_eqColS.l0 (k + 1) y0 y1 y2))
 | 0=>fun _ _ _ r h=>by simp [laws_eqColS.l0] at h
 | k + 1=>by
  have ih0:=laws_eqColS.mono_l k
  ·intro y0 y1 y2
   unfold laws_eqColS.l0
   repeat' first
   | (with_reducible exact ih0 _ _ _)
   | (with_reducible exact LeO.refl _)
   | (with_reducible exact LeO.none _)
   | (with_reducible refine LeO.ite ?_ ?_)
   | (with_reducible refine LeO.bind ?_ (fun _=>?_))
   | exact ih0 _ _ _
   | exact LeO.none _
   | refine LeO.ite ?_ ?_
   | refine LeO.bind ?_ (fun _=>?_)
theorem laws_eqColS.mono : ∀ a0 a1 k,LeO (laws_eqColS.f k a0 a1) (laws_eqColS.f (k + 1) a0 a1):=by
 intro a0 a1 k
 have ih0:=laws_eqColS.mono_l k
 unfold laws_eqColS.f
 repeat' first
   | (with_reducible exact ih0 _ _ _)
   | (with_reducible exact LeO.refl _)
   | (with_reducible exact LeO.none _)
   | (with_reducible refine LeO.ite ?_ ?_)
   | (with_reducible refine LeO.bind ?_ (fun _=>?_))
   | exact ih0 _ _ _
   | exact LeO.none _
   | refine LeO.ite ?_ ?_
   | refine LeO.bind ?_ (fun _=>?_)
def laws_eqColS.T6 : Bool × List (List Nat × List Nat):=(true,[([],[]),([],[]),([0,1],[0,1]),([2],[2]),([],[]),([],[]),([4,5],[4,5]),([6],[6]),([3,7],[3,7]),([8],[8])])
def laws_eqColS.B6 : List Nat:=[0,0,3,7,0,0,48,112,255,511]
theorem laws_eqColS.tab6 : rtab .any (opsOf Tryd.f76 6) = laws_eqColS.T6:=by kernel_rfl
theorem laws_eqColS.bits6 : waitsOk laws_eqColS.T6.2 laws_eqColS.B6 = true:=by kernel_rfl
set_option maxHeartbeats 8000000 in
set_option maxRecDepth 100000 in
theorem laws_eqColS.calls (k : Nat) (A0 : Option Addr) (c0 : Nat) (l0 : List (S82)) (A1 : Option Addr) (c1 : Nat) (l1 : List (S82)) (r : Bool) (w : World) (hr0 : Kd.C k82 w A0 l0.length l0) (hc0 : l0.length ≤ c0) (hr1 : Kd.C k82 w A1 l1.length l1) (hc1 : l1.length ≤ c1) (h : laws_eqColS.f k l0 l1 = some r) :
  Calls Tryd.prog 76 #[.slice A0 l0.length c0,.slice A1 l1.length c1] w fun e w'=>e = .returned (.bool r) ∧ Below w.heap.size w w':=by
 have hu82:=Tryd.underlying82
 have HR0:=aM_ hr0
 have HC0:=aM_ hc0
 clear hr0 hc0
 have HR1:=aM_ hr1
 have HC1:=aM_ hc1
 clear hr1 hc1
 have HB:=aM_ (Below.refl w.heap.size w)
 have H : (if (l0.length : Int) = (l1.length : Int) then (laws_eqColS.l0 k l0 l1 0) else (some false)) = some r:=h
 clear h
 by_cases c3 : (l0.length : Int) = (l1.length : Int)
 ·rw [if_pos c3] at H
  have c3b0 : ((l0.length : Int) == (l1.length : Int)) = true:=beq_iff_eq.mpr c3
  have c3b1 : ((l0.length : Int) != (l1.length : Int)) = false:=bne_eq_false_iff_eq.mpr c3
  have c3b2 : (l0.length == l1.length) = true:=by first | simpa using c3 | (simp at c3 ⊢;omega)
  clear c3
  have H':=aM_ H
  clear H
  go_enter Tryd.func76,Tryd.ntmps76
  go_wp2
  (try simp only [Act.put,sI_,sS_,sZ_])
  go_loopg [5] k (fun kq v5 w'=>∃ (x5_1 : Int),v5 = .int .i64 x5_1 ∧ Aside0 (laws_eqColS.l0 kq l0 l1 x5_1 = some r) ∧ Aside0 (kq ≤ k) ∧ Aside0 (Below w.heap.size w w'))
  case atStart=>exact ⟨(0),(by first | rfl | (simp;done) | (simp [*];done)),H', ⟨Nat.le_refl _⟩,⟨by exact bZ_ HB⟩⟩
  case round =>
   clear H'
   try clear c1
   try clear p2
   try clear c3
   try clear c3b0
   try clear c3b1
   try clear c3b2
   obtain ⟨x5_1,rfl,HA,HK1,HB⟩:=hrel
   cases gk with
   | zero=>exact absurd HA.out (by simp [laws_eqColS.l0])
   | succ k1 =>
    have H:=HA.out
    clear HA
    simp only [laws_eqColS.l0] at H
    by_cases c4 : x5_1 < (l0.length : Int)
    ·rw [if_pos c4] at H
     have c4b0 : decide (x5_1 < (l0.length : Int)) = true:=decide_eq_true c4
     clear c4
     by_cases c5 : 0 ≤ x5_1
     ·rw [if_pos c5] at H
      have c5b0 : decide (0 ≤ x5_1) = true:=decide_eq_true c5
      clear c5
      by_cases c6 : x5_1 < (l1.length : Int)
      ·rw [if_pos c6] at H
       have c6b0 : decide (x5_1 < (l1.length : Int)) = true:=decide_eq_true c6
       clear c6
       replace H:=oB_ H
       obtain ⟨t317,A70,H⟩:=H
       replace H : (if t317 = true then (laws_eqColS.l0 k1 l0 l1 (wrap64 (x5_1 + 1))) else (some false)) = some r:=H
       have A7:=aM_ A70
       clear A70
       by_cases c8 : t317 = true
       ·subst c8
        have H1 : (laws_eqColS.l0 k1 l0 l1 (wrap64 (x5_1 + 1))) = some r:=by rw [if_pos rfl] at H;exact H
        clear H
        have H:=H1
        clear H1
        have H':=aM_ H
        clear H
        try go_wp2
        have n0_:=aM_ (bD_ HB.out)
        clear HB
        have HB:=n0_
        clear n0_
        have p315 : 0 ≤ (x5_1 : Int):=oT_ (by first | (with_reducible assumption) | assumption)
        have q315 : x5_1 < (l0.length : Int):=oT_ (by first | (with_reducible assumption) | assumption)
        obtain ⟨ad315,e315,hx315_0,hx315_1,hx315_2⟩:=at_T82 HR0.out x5_1 p315 q315
        have hw315_2:=hx315_2
        have hw315_1:=hx315_1
        have hw315_0:=hx315_0
        cases e315
        replace hx315_0:=(HB.out.cell (wL_ w _ hx315_0)).trans hx315_0
        replace hx315_1:=(HB.out.cell (wL_ w _ hx315_1)).trans hx315_1
        replace hx315_2:=(HB.out.cell (wL_ w _ hx315_2)).trans hx315_2
        replace p315:=eq_true p315
        replace q315:=eq_true q315
        have p316 : 0 ≤ (x5_1 : Int):=oT_ (by first | (with_reducible assumption) | assumption)
        have q316 : x5_1 < (l1.length : Int):=oT_ (by first | (with_reducible assumption) | assumption)
        obtain ⟨ad316,e316,hx316_0,hx316_1,hx316_2⟩:=at_T82 HR1.out x5_1 p316 q316
        have hw316_2:=hx316_2
        have hw316_1:=hx316_1
        have hw316_0:=hx316_0
        cases e316
        replace hx316_0:=(HB.out.cell (wL_ w _ hx316_0)).trans hx316_0
        replace hx316_1:=(HB.out.cell (wL_ w _ hx316_1)).trans hx316_1
        replace hx316_2:=(HB.out.cell (wL_ w _ hx316_2)).trans hx316_2
        replace p316:=eq_true p316
        replace q316:=eq_true q316
        refine start_ (n:=10) (S:=fun w'=>w'.cell? (ad315.add ((x5_1).toNat * 3)) = some (.string ((rd_T82 l0 x5_1).f0)) ∧ w'.cell? ⟨(ad315.add ((x5_1).toNat * 3)).block,(ad315.add ((x5_1).toNat * 3)).off + 1,none⟩ = some (.int .i64 ((rd_T82 l0 x5_1).f1)) ∧ w'.cell? ⟨(ad315.add ((x5_1).toNat * 3)).block,(ad315.add ((x5_1).toNat * 3)).off + 2,none⟩ = some (.bool ((rd_T82 l0 x5_1).f2)) ∧ w'.cell? (ad316.add ((x5_1).toNat * 3)) = some (.string ((rd_T82 l1 x5_1).f0)) ∧ w'.cell? ⟨(ad316.add ((x5_1).toNat * 3)).block,(ad316.add ((x5_1).toNat * 3)).off + 1,none⟩ = some (.int .i64 ((rd_T82 l1 x5_1).f1)) ∧ w'.cell? ⟨(ad316.add ((x5_1).toNat * 3)).block,(ad316.add ((x5_1).toNat * 3)).off + 2,none⟩ = some (.bool ((rd_T82 l1 x5_1).f2))) (ds:=[]) (tb_ 0 10) (by kernel_rfl) rfl rfl ⟨((HB.out.cell (wL_ w _ hw315_0)).trans hw315_0),((HB.out.cell (wL_ w _ hw315_1)).trans hw315_1),((HB.out.cell (wL_ w _ hw315_2)).trans hw315_2),((HB.out.cell (wL_ w _ hw316_0)).trans hw316_0),((HB.out.cell (wL_ w _ hw316_1)).trans hw316_1),((HB.out.cell (wL_ w _ hw316_2)).trans hw316_2)⟩ (fun hHeld=>?_);refine with_tabW laws_eqColS.tab6 laws_eqColS.bits6 (fun HT_ HW_=>?_)
        generalize wr.drew = w9 at HB hx315_0 hx315_1 hx315_2 hx316_0 hx316_1 hx316_2 hHeld ⊢
        refine pure_ (i:=0) (N:=some 17) (v:=?_) (a':=?_) (tb_ 1 9) rfl rfl (any_of HT_.out (by kernel_rfl)) (fun _ _ _ h=>h) (Or.inl ⟨by rfl,?_⟩) ?_ ?_
        rotate_left
        ·intro w'
         go_simp
         with_reducible rfl
        rotate_left
        ·simp only [Act.put,sI_,sZ_,sS_,i64_w,i32_w]
         rfl
        refine pure_ (i:=1) (N:=some 18) (v:=?_) (a':=?_) (tb_ 2 8) rfl rfl (any_of HT_.out (by kernel_rfl)) (fun _ _ _ h=>h) (Or.inl ⟨by rfl,?_⟩) ?_ ?_
        rotate_left
        ·intro w'
         go_simp
         with_reducible rfl
        rotate_left
        ·simp only [Act.put,sI_,sZ_,sS_,i64_w,i32_w]
         rfl
        refine pure_ (i:=2) (N:=some 19) (v:=?_) (a':=?_) (tb_ 3 7) rfl rfl (any_of HT_.out (by kernel_rfl)) (fun _ _ _ h=>h) (Or.inl ⟨by rfl,?_⟩) ?_ ?_
        rotate_left
        ·intro w'
         go_simp
         with_reducible rfl
        rotate_left
        ·simp only [Act.put,sI_,sZ_,sS_,i64_w,i32_w]
         rfl
        refine pure_ (i:=4) (N:=some 21) (v:=?_) (a':=?_) #[true,true,true,false,true,false,false,false,false,false] rfl rfl (any_of HT_.out (by kernel_rfl)) (fun _ _ _ h=>h) (Or.inl ⟨by rfl,?_⟩) ?_ ?_
        rotate_left
        ·intro w'
         go_simp
         with_reducible rfl
        rotate_left
        ·simp only [Act.put,sI_,sZ_,sS_,i64_w,i32_w]
         rfl
        refine pure_ (i:=5) (N:=some 22) (v:=?_) (a':=?_) #[true,true,true,false,true,true,false,false,false,false] rfl rfl (any_of HT_.out (by kernel_rfl)) (fun _ _ _ h=>h) (Or.inl ⟨by rfl,?_⟩) ?_ ?_
        rotate_left
        ·intro w'
         go_simp
         with_reducible rfl
        rotate_left
        ·simp only [Act.put,sI_,sZ_,sS_,i64_w,i32_w]
         rfl
        refine pure_ (i:=6) (N:=some 23) (v:=?_) (a':=?_) #[true,true,true,false,true,true,true,false,false,false] rfl rfl (any_of HT_.out (by kernel_rfl)) (fun _ _ _ h=>h) (Or.inl ⟨by rfl,?_⟩) ?_ ?_
        rotate_left
        ·intro w'
         go_simp
         with_reducible rfl
        rotate_left
        ·simp only [Act.put,sI_,sZ_,sS_,i64_w,i32_w]
         rfl
        refine take_ (i:=3) (N:=some 20) (v:=?_) (a':=?_) (tb_ 7 3) rfl rfl (take_ofW HT_.out HW_.out (by kernel_rfl)) (fun _ _ _ h=>h) (Or.inl ⟨by rfl,?_⟩) hHeld ?_ ?_
        rotate_left
        ·rintro w' ⟨s0,s1,s2,s3,s4,s5⟩
         go_simp
         with_reducible rfl
        rotate_left
        ·simp only [Act.put,sI_,sZ_,sS_,i64_w,i32_w]
         rfl
        refine take_ (i:=7) (N:=some 24) (v:=?_) (a':=?_) (tb_ 8 2) rfl rfl (take_ofW HT_.out HW_.out (by kernel_rfl)) (fun _ _ _ h=>h) (Or.inl ⟨by rfl,?_⟩) hHeld ?_ ?_
        rotate_left
        ·rintro w' ⟨s0,s1,s2,s3,s4,s5⟩
         go_simp
         with_reducible rfl
        rotate_left
        ·simp only [Act.put,sI_,sZ_,sS_,i64_w,i32_w]
         rfl
        refine one_ (i:=8) (N:=some 25) (tb_ 9 1) rfl rfl (one_of HT_.out (by kernel_rfl)) (by decide) (fun K hK=>?_)
        refine goes_ Tryd.func117 (by kernel_rfl) rfl #[.agg #[.string ((rd_T82 l0 x5_1).f0),.int .i64 ((rd_T82 l0 x5_1).f1),.bool ((rd_T82 l0 x5_1).f2)],.agg #[.string ((rd_T82 l1 x5_1).f0),.int .i64 ((rd_T82 l1 x5_1).f1),.bool ((rd_T82 l1 x5_1).f2)]] (by rfl) rfl rfl (by (try simp only [mA_,mC_,mN_]);first | done | rfl | (simp only [lD_,lT_];rfl)) ?_
        with_reducible refine (laws_eqCol.calls ((rd_T82 l0 x5_1).f0) ((rd_T82 l0 x5_1).f1) ((rd_T82 l0 x5_1).f2) ((rd_T82 l1 x5_1).f0) ((rd_T82 l1 x5_1).f1) ((rd_T82 l1 x5_1).f2) true _ A7.out).mono ?_
        rintro e w10 ⟨rfl,hb⟩
        refine ⟨_,rfl,?_⟩
        have n0_:=aM_ (bT_ (by exact bZ_ HB) hb)
        clear HB
        have HB:=n0_
        clear n0_
        (try clear hb)
        (try clear hb2)
        (try clear hk)
        (try clear hi)
        refine hK.out _ _ ⟨((HB.out.cell (wL_ w _ hw315_0)).trans hw315_0),((HB.out.cell (wL_ w _ hw315_1)).trans hw315_1),((HB.out.cell (wL_ w _ hw315_2)).trans hw315_2),((HB.out.cell (wL_ w _ hw316_0)).trans hw316_0),((HB.out.cell (wL_ w _ hw316_1)).trans hw316_1),((HB.out.cell (wL_ w _ hw316_2)).trans hw316_2)⟩ (fun hHeld=>?_)
        clear hK K
        refine norm_ (a':=?_) ?_ ?_
        rotate_left
        ·show Act.put _ (some 25) _ = _
         simp only [Act.put,sI_,sZ_,sS_,i64_w,i32_w]
         rfl
        refine pure_ (i:=9) (N:=some 26) (v:=?_) (a':=?_) (tb_ 10 0) rfl rfl (any_of HT_.out (by kernel_rfl)) (fun _ _ _ h=>h) (Or.inl ⟨by rfl,?_⟩) ?_ ?_
        rotate_left
        ·intro w'
         go_simp
         with_reducible rfl
        rotate_left
        ·simp only [Act.put,sI_,sZ_,sS_,i64_w,i32_w]
         rfl
        refine done_ (done_of HT_.out (by kernel_rfl)) ?_
        try go_wp2
        go_roundg k1
        case measure=>have:=HK1.out;omega
        case rel=>exact ⟨(wrap64 (x5_1 + 1)),(by first | rfl | (simp;done) | (simp [*];done)),H', ⟨by have:=HK1.out;omega⟩,⟨by exact bZ_ HB⟩⟩
       ·replace c8:=Bool.eq_false_iff.mpr c8
        subst c8
        have H1 : (some false) = some r:=by rw [if_neg (show ¬ (false = true) by decide)] at H;exact H
        clear H
        have H:=H1
        clear H1
        obtain rfl:=Option.some.inj H
        try go_wp2
        have n0_:=aM_ (bD_ HB.out)
        clear HB
        have HB:=n0_
        clear n0_
        have p315 : 0 ≤ (x5_1 : Int):=oT_ (by first | (with_reducible assumption) | assumption)
        have q315 : x5_1 < (l0.length : Int):=oT_ (by first | (with_reducible assumption) | assumption)
        obtain ⟨ad315,e315,hx315_0,hx315_1,hx315_2⟩:=at_T82 HR0.out x5_1 p315 q315
        have hw315_2:=hx315_2
        have hw315_1:=hx315_1
        have hw315_0:=hx315_0
        cases e315
        replace hx315_0:=(HB.out.cell (wL_ w _ hx315_0)).trans hx315_0
        replace hx315_1:=(HB.out.cell (wL_ w _ hx315_1)).trans hx315_1
        replace hx315_2:=(HB.out.cell (wL_ w _ hx315_2)).trans hx315_2
        replace p315:=eq_true p315
        replace q315:=eq_true q315
        have p316 : 0 ≤ (x5_1 : Int):=oT_ (by first | (with_reducible assumption) | assumption)
        have q316 : x5_1 < (l1.length : Int):=oT_ (by first | (with_reducible assumption) | assumption)
        obtain ⟨ad316,e316,hx316_0,hx316_1,hx316_2⟩:=at_T82 HR1.out x5_1 p316 q316
        have hw316_2:=hx316_2
        have hw316_1:=hx316_1
        have hw316_0:=hx316_0
        cases e316
        replace hx316_0:=(HB.out.cell (wL_ w _ hx316_0)).trans hx316_0
        replace hx316_1:=(HB.out.cell (wL_ w _ hx316_1)).trans hx316_1
        replace hx316_2:=(HB.out.cell (wL_ w _ hx316_2)).trans hx316_2
        replace p316:=eq_true p316
        replace q316:=eq_true q316
        refine start_ (n:=10) (S:=fun w'=>w'.cell? (ad315.add ((x5_1).toNat * 3)) = some (.string ((rd_T82 l0 x5_1).f0)) ∧ w'.cell? ⟨(ad315.add ((x5_1).toNat * 3)).block,(ad315.add ((x5_1).toNat * 3)).off + 1,none⟩ = some (.int .i64 ((rd_T82 l0 x5_1).f1)) ∧ w'.cell? ⟨(ad315.add ((x5_1).toNat * 3)).block,(ad315.add ((x5_1).toNat * 3)).off + 2,none⟩ = some (.bool ((rd_T82 l0 x5_1).f2)) ∧ w'.cell? (ad316.add ((x5_1).toNat * 3)) = some (.string ((rd_T82 l1 x5_1).f0)) ∧ w'.cell? ⟨(ad316.add ((x5_1).toNat * 3)).block,(ad316.add ((x5_1).toNat * 3)).off + 1,none⟩ = some (.int .i64 ((rd_T82 l1 x5_1).f1)) ∧ w'.cell? ⟨(ad316.add ((x5_1).toNat * 3)).block,(ad316.add ((x5_1).toNat * 3)).off + 2,none⟩ = some (.bool ((rd_T82 l1 x5_1).f2))) (ds:=[]) (tb_ 0 10) (by kernel_rfl) rfl rfl ⟨((HB.out.cell (wL_ w _ hw315_0)).trans hw315_0),((HB.out.cell (wL_ w _ hw315_1)).trans hw315_1),((HB.out.cell (wL_ w _ hw315_2)).trans hw315_2),((HB.out.cell (wL_ w _ hw316_0)).trans hw316_0),((HB.out.cell (wL_ w _ hw316_1)).trans hw316_1),((HB.out.cell (wL_ w _ hw316_2)).trans hw316_2)⟩ (fun hHeld=>?_);refine with_tabW laws_eqColS.tab6 laws_eqColS.bits6 (fun HT_ HW_=>?_)
        generalize wr.drew = w11 at HB hx315_0 hx315_1 hx315_2 hx316_0 hx316_1 hx316_2 hHeld ⊢
        refine pure_ (i:=0) (N:=some 17) (v:=?_) (a':=?_) (tb_ 1 9) rfl rfl (any_of HT_.out (by kernel_rfl)) (fun _ _ _ h=>h) (Or.inl ⟨by rfl,?_⟩) ?_ ?_
        rotate_left
        ·intro w'
         go_simp
         with_reducible rfl
        rotate_left
        ·simp only [Act.put,sI_,sZ_,sS_,i64_w,i32_w]
         rfl
        refine pure_ (i:=1) (N:=some 18) (v:=?_) (a':=?_) (tb_ 2 8) rfl rfl (any_of HT_.out (by kernel_rfl)) (fun _ _ _ h=>h) (Or.inl ⟨by rfl,?_⟩) ?_ ?_
        rotate_left
        ·intro w'
         go_simp
         with_reducible rfl
        rotate_left
        ·simp only [Act.put,sI_,sZ_,sS_,i64_w,i32_w]
         rfl
        refine pure_ (i:=2) (N:=some 19) (v:=?_) (a':=?_) (tb_ 3 7) rfl rfl (any_of HT_.out (by kernel_rfl)) (fun _ _ _ h=>h) (Or.inl ⟨by rfl,?_⟩) ?_ ?_
        rotate_left
        ·intro w'
         go_simp
         with_reducible rfl
        rotate_left
        ·simp only [Act.put,sI_,sZ_,sS_,i64_w,i32_w]
         rfl
        refine pure_ (i:=4) (N:=some 21) (v:=?_) (a':=?_) #[true,true,true,false,true,false,false,false,false,false] rfl rfl (any_of HT_.out (by kernel_rfl)) (fun _ _ _ h=>h) (Or.inl ⟨by rfl,?_⟩) ?_ ?_
        rotate_left
        ·intro w'
         go_simp
         with_reducible rfl
        rotate_left
        ·simp only [Act.put,sI_,sZ_,sS_,i64_w,i32_w]
         rfl
        refine pure_ (i:=5) (N:=some 22) (v:=?_) (a':=?_) #[true,true,true,false,true,true,false,false,false,false] rfl rfl (any_of HT_.out (by kernel_rfl)) (fun _ _ _ h=>h) (Or.inl ⟨by rfl,?_⟩) ?_ ?_
        rotate_left
        ·intro w'
         go_simp
         with_reducible rfl
        rotate_left
        ·simp only [Act.put,sI_,sZ_,sS_,i64_w,i32_w]
         rfl
        refine pure_ (i:=6) (N:=some 23) (v:=?_) (a':=?_) #[true,true,true,false,true,true,true,false,false,false] rfl rfl (any_of HT_.out (by kernel_rfl)) (fun _ _ _ h=>h) (Or.inl ⟨by rfl,?_⟩) ?_ ?_
        rotate_left
        ·intro w'
         go_simp
         with_reducible rfl
        rotate_left
        ·simp only [Act.put,sI_,sZ_,sS_,i64_w,i32_w]
         rfl
        refine take_ (i:=3) (N:=some 20) (v:=?_) (a':=?_) (tb_ 7 3) rfl rfl (take_ofW HT_.out HW_.out (by kernel_rfl)) (fun _ _ _ h=>h) (Or.inl ⟨by rfl,?_⟩) hHeld ?_ ?_
        rotate_left
        ·rintro w' ⟨s0,s1,s2,s3,s4,s5⟩
         go_simp
         with_reducible rfl
        rotate_left
        ·simp only [Act.put,sI_,sZ_,sS_,i64_w,i32_w]
         rfl
        refine take_ (i:=7) (N:=some 24) (v:=?_) (a':=?_) (tb_ 8 2) rfl rfl (take_ofW HT_.out HW_.out (by kernel_rfl)) (fun _ _ _ h=>h) (Or.inl ⟨by rfl,?_⟩) hHeld ?_ ?_
        rotate_left
        ·rintro w' ⟨s0,s1,s2,s3,s4,s5⟩
         go_simp
         with_reducible rfl
        rotate_left
        ·simp only [Act.put,sI_,sZ_,sS_,i64_w,i32_w]
         rfl
        refine one_ (i:=8) (N:=some 25) (tb_ 9 1) rfl rfl (one_of HT_.out (by kernel_rfl)) (by decide) (fun K hK=>?_)
        refine goes_ Tryd.func117 (by kernel_rfl) rfl #[.agg #[.string ((rd_T82 l0 x5_1).f0),.int .i64 ((rd_T82 l0 x5_1).f1),.bool ((rd_T82 l0 x5_1).f2)],.agg #[.string ((rd_T82 l1 x5_1).f0),.int .i64 ((rd_T82 l1 x5_1).f1),.bool ((rd_T82 l1 x5_1).f2)]] (by rfl) rfl rfl (by (try simp only [mA_,mC_,mN_]);first | done | rfl | (simp only [lD_,lT_];rfl)) ?_
        with_reducible refine (laws_eqCol.calls ((rd_T82 l0 x5_1).f0) ((rd_T82 l0 x5_1).f1) ((rd_T82 l0 x5_1).f2) ((rd_T82 l1 x5_1).f0) ((rd_T82 l1 x5_1).f1) ((rd_T82 l1 x5_1).f2) false _ A7.out).mono ?_
        rintro e w12 ⟨rfl,hb⟩
        refine ⟨_,rfl,?_⟩
        have n0_:=aM_ (bT_ (by exact bZ_ HB) hb)
        clear HB
        have HB:=n0_
        clear n0_
        (try clear hb)
        (try clear hb2)
        (try clear hk)
        (try clear hi)
        refine hK.out _ _ ⟨((HB.out.cell (wL_ w _ hw315_0)).trans hw315_0),((HB.out.cell (wL_ w _ hw315_1)).trans hw315_1),((HB.out.cell (wL_ w _ hw315_2)).trans hw315_2),((HB.out.cell (wL_ w _ hw316_0)).trans hw316_0),((HB.out.cell (wL_ w _ hw316_1)).trans hw316_1),((HB.out.cell (wL_ w _ hw316_2)).trans hw316_2)⟩ (fun hHeld=>?_)
        clear hK K
        refine norm_ (a':=?_) ?_ ?_
        rotate_left
        ·show Act.put _ (some 25) _ = _
         simp only [Act.put,sI_,sZ_,sS_,i64_w,i32_w]
         rfl
        refine pure_ (i:=9) (N:=some 26) (v:=?_) (a':=?_) (tb_ 10 0) rfl rfl (any_of HT_.out (by kernel_rfl)) (fun _ _ _ h=>h) (Or.inl ⟨by rfl,?_⟩) ?_ ?_
        rotate_left
        ·intro w'
         go_simp
         with_reducible rfl
        rotate_left
        ·simp only [Act.put,sI_,sZ_,sS_,i64_w,i32_w]
         rfl
        refine done_ (done_of HT_.out (by kernel_rfl)) ?_
        try go_wp2
        go_ret
        exact ⟨by first | rfl | (simp [errW_none,errW_some] <;> rfl) | (simp [*, errW_none,errW_some] <;> rfl),by exact bZ_ HB⟩
      ·rw [if_neg c6] at H
       exact absurd H (by simp)
     ·rw [if_neg c5] at H
      exact absurd H (by simp)
    ·rw [if_neg c4] at H
     have c4b0 : decide (x5_1 < (l0.length : Int)) = false:=decide_eq_false c4
     clear c4
     obtain rfl:=Option.some.inj H
     go_wp2
     go_ret
     exact ⟨by first | rfl | (simp [errW_none,errW_some] <;> rfl) | (simp [*, errW_none,errW_some] <;> rfl),by exact bZ_ HB⟩
 ·rw [if_neg c3] at H
  have c3b0 : ((l0.length : Int) == (l1.length : Int)) = false:=beq_eq_false_iff_ne.mpr c3
  have c3b1 : ((l0.length : Int) != (l1.length : Int)) = true:=bne_iff_ne.mpr c3
  have c3b2 : (l0.length == l1.length) = false:=by first | simpa using c3 | (simp at c3 ⊢;omega)
  obtain rfl:=Option.some.inj H
  go_enter Tryd.func76,Tryd.ntmps76
  go_wp2
  go_ret
  exact ⟨by first | rfl | (simp [errW_none,errW_some] <;> rfl) | (simp [*, errW_none,errW_some] <;> rfl),by exact bZ_ HB⟩
def laws_eqBy.f (a0_0 : Int) (a0_1 : Bool) (a1_0 : Int) (a1_1 : Bool) : Option (Bool):=if a0_0 = a1_0 then (if (a0_1 != a1_1) = true then (some false) else (some true)) else (some false)
set_option maxHeartbeats 8000000 in
set_option maxRecDepth 100000 in
theorem laws_eqBy.calls (a0_0 : Int) (a0_1 : Bool) (a1_0 : Int) (a1_1 : Bool) (r : Bool) (w : World) (h : laws_eqBy.f a0_0 a0_1 a1_0 a1_1 = some r) :
  Calls Tryd.prog 118 #[.agg #[.int .i64 a0_0,.bool a0_1],.agg #[.int .i64 a1_0,.bool a1_1]] w fun e w'=>e = .returned (.bool r) ∧ Below w.heap.size w w':=by
 have hu85:=Tryd.underlying85
 have HB:=aM_ (Below.refl w.heap.size w)
 have H : (if a0_0 = a1_0 then (if (a0_1 != a1_1) = true then (some false) else (some true)) else (some false)) = some r:=h
 clear h
 by_cases c3 : a0_0 = a1_0
 ·rw [if_pos c3] at H
  have c3b0 : (a0_0 == a1_0) = true:=beq_iff_eq.mpr c3
  have c3b1 : (a0_0 != a1_0) = false:=bne_eq_false_iff_eq.mpr c3
  clear c3
  by_cases c4 : (a0_1 != a1_1) = true
  ·rw [if_pos c4] at H
   have c4b0 : (a0_1 != a1_1) = true:=c4
   (try (have c4b1 : decide (a0_1 = a1_1) = false:=by simpa using c4))
   (try (have c4b2 : (a0_1 == a1_1) = false:=by simpa using c4))
   (try (have c4b3 : ¬ (a0_1 = a1_1):=by simpa using c4))
   clear c4
   obtain rfl:=Option.some.inj H
   go_enter Tryd.func118,Tryd.ntmps118
   go_wp2_with (first | ((with_reducible refine gate_dst (N:=2) rfl ?_);refine box_event ?hg (N:=2) ?hd (cs:=#[.int .i64 a0_0,.bool a0_1]) (t:=85) ?hr ?_;(case hd=>rfl);(case hg=>rfl);(case hr=>first | (go_simp;done) | (go_simp;rfl));intro gb318 hg w5 hbox hb;have n0_:=aM_ (bT_ (by exact bZ_ HB) hb);have n1_:=aM_ (hbox);have n2_:=aM_ ((by rw [hg];exact (bS_ (by exact bZ_ HB)) : w.heap.size ≤ gb318));have n3_:=aM_ ((by rw [hg];exact (bS_ (by exact bZ_ HB)) : w.heap.size ≤ gb318));clear HB;have HB:=n0_;have BK318:=n1_;have GW318:=n2_;have GE318:=n3_;clear n0_ n1_ n2_ n3_;clear hb hbox hg) | ((with_reducible refine gate_dst (N:=3) rfl ?_);refine box_event ?hg (N:=3) ?hd (cs:=#[.int .i64 a1_0,.bool a1_1]) (t:=85) ?hr ?_;(case hd=>rfl);(case hg=>rfl);(case hr=>first | (go_simp;done) | (go_simp;rfl));intro gb319 hg w6 hbox hb;have n0_:=aM_ (blk_below (g:=gb318) (o:=.cells #[.int .i64 a0_0,.bool a0_1] 85 (0,0)) (by exact kZ_ BK318) hb);have n1_:=aM_ (bT_ (by exact bZ_ HB) hb);have n2_:=aM_ (hbox);have n3_:=aM_ ((by rw [hg];exact (bS_ (by exact bZ_ HB)) : w.heap.size ≤ gb319));have n4_:=aM_ ((by rw [hg];exact (bS_ (by exact bZ_ HB)) : w.heap.size ≤ gb319));have n5_:=aM_ ((by rw [hg];exact nN_ (blk_lt (g:=gb318) (o:=.cells #[.int .i64 a0_0,.bool a0_1] 85 (0,0)) (by exact kZ_ BK318)) : gb318 ≠ gb319));have n6_:=aM_ ((by rw [hg];exact Nat.ne_of_gt (blk_lt (g:=gb318) (o:=.cells #[.int .i64 a0_0,.bool a0_1] 85 (0,0)) (by exact kZ_ BK318)) : gb319 ≠ gb318));clear BK318;clear HB;have BK318:=n0_;have HB:=n1_;have BK319:=n2_;have GW319:=n3_;have GE319:=n4_;have NB318_319:=n5_;have NB319_318:=n6_;clear n0_ n1_ n2_ n3_ n4_ n5_ n6_;clear hb hbox hg;have hnb7:=NB318_319.out;have hnc7:=NB319_318.out;have hcz8_0 : w6.cell? ⟨gb318,0,none⟩ = some (.int .i64 a0_0):=(kC_ BK318.out 0).trans rfl;have hcz8_1 : w6.cell? ⟨gb318,1,none⟩ = some (.bool a0_1):=(kC_ BK318.out 1).trans rfl;have hfz8_0:=kF_ BK318.out 0;have hfz8_1:=kF_ BK318.out 1;have hcz9_0 : w6.cell? ⟨gb319,0,none⟩ = some (.int .i64 a1_0):=(kC_ BK319.out 0).trans rfl;have hcz9_1 : w6.cell? ⟨gb319,1,none⟩ = some (.bool a1_1):=(kC_ BK319.out 1).trans rfl;have hfz9_0:=kF_ BK319.out 0;have hfz9_1:=kF_ BK319.out 1))
   go_ret
   exact ⟨by first | rfl | (simp [errW_none,errW_some] <;> rfl) | (simp [*, errW_none,errW_some] <;> rfl),by exact bZ_ HB⟩
  ·rw [if_neg c4] at H
   have c4b0 : (a0_1 != a1_1) = false:=by simpa using c4
   (try (have c4b1 : decide (a0_1 = a1_1) = true:=by simpa using c4))
   (try (have c4b2 : (a0_1 == a1_1) = true:=by simpa using c4))
   clear c4
   obtain rfl:=Option.some.inj H
   go_enter Tryd.func118,Tryd.ntmps118
   go_wp2_with (first | ((with_reducible refine gate_dst (N:=2) rfl ?_);refine box_event ?hg (N:=2) ?hd (cs:=#[.int .i64 a0_0,.bool a0_1]) (t:=85) ?hr ?_;(case hd=>rfl);(case hg=>rfl);(case hr=>first | (go_simp;done) | (go_simp;rfl));intro gb318 hg w10 hbox hb;have n0_:=aM_ (bT_ (by exact bZ_ HB) hb);have n1_:=aM_ (hbox);have n2_:=aM_ ((by rw [hg];exact (bS_ (by exact bZ_ HB)) : w.heap.size ≤ gb318));have n3_:=aM_ ((by rw [hg];exact (bS_ (by exact bZ_ HB)) : w.heap.size ≤ gb318));clear HB;have HB:=n0_;have BK318:=n1_;have GW318:=n2_;have GE318:=n3_;clear n0_ n1_ n2_ n3_;clear hb hbox hg) | ((with_reducible refine gate_dst (N:=3) rfl ?_);refine box_event ?hg (N:=3) ?hd (cs:=#[.int .i64 a1_0,.bool a1_1]) (t:=85) ?hr ?_;(case hd=>rfl);(case hg=>rfl);(case hr=>first | (go_simp;done) | (go_simp;rfl));intro gb319 hg w11 hbox hb;have n0_:=aM_ (blk_below (g:=gb318) (o:=.cells #[.int .i64 a0_0,.bool a0_1] 85 (0,0)) (by exact kZ_ BK318) hb);have n1_:=aM_ (bT_ (by exact bZ_ HB) hb);have n2_:=aM_ (hbox);have n3_:=aM_ ((by rw [hg];exact (bS_ (by exact bZ_ HB)) : w.heap.size ≤ gb319));have n4_:=aM_ ((by rw [hg];exact (bS_ (by exact bZ_ HB)) : w.heap.size ≤ gb319));have n5_:=aM_ ((by rw [hg];exact nN_ (blk_lt (g:=gb318) (o:=.cells #[.int .i64 a0_0,.bool a0_1] 85 (0,0)) (by exact kZ_ BK318)) : gb318 ≠ gb319));have n6_:=aM_ ((by rw [hg];exact Nat.ne_of_gt (blk_lt (g:=gb318) (o:=.cells #[.int .i64 a0_0,.bool a0_1] 85 (0,0)) (by exact kZ_ BK318)) : gb319 ≠ gb318));clear BK318;clear HB;have BK318:=n0_;have HB:=n1_;have BK319:=n2_;have GW319:=n3_;have GE319:=n4_;have NB318_319:=n5_;have NB319_318:=n6_;clear n0_ n1_ n2_ n3_ n4_ n5_ n6_;clear hb hbox hg;have hnb12:=NB318_319.out;have hnc12:=NB319_318.out;have hcz13_0 : w11.cell? ⟨gb318,0,none⟩ = some (.int .i64 a0_0):=(kC_ BK318.out 0).trans rfl;have hcz13_1 : w11.cell? ⟨gb318,1,none⟩ = some (.bool a0_1):=(kC_ BK318.out 1).trans rfl;have hfz13_0:=kF_ BK318.out 0;have hfz13_1:=kF_ BK318.out 1;have hcz14_0 : w11.cell? ⟨gb319,0,none⟩ = some (.int .i64 a1_0):=(kC_ BK319.out 0).trans rfl;have hcz14_1 : w11.cell? ⟨gb319,1,none⟩ = some (.bool a1_1):=(kC_ BK319.out 1).trans rfl;have hfz14_0:=kF_ BK319.out 0;have hfz14_1:=kF_ BK319.out 1))
   go_ret
   exact ⟨by first | rfl | (simp [errW_none,errW_some] <;> rfl) | (simp [*, errW_none,errW_some] <;> rfl),by exact bZ_ HB⟩
 ·rw [if_neg c3] at H
  have c3b0 : (a0_0 == a1_0) = false:=beq_eq_false_iff_ne.mpr c3
  have c3b1 : (a0_0 != a1_0) = true:=bne_iff_ne.mpr c3
  obtain rfl:=Option.some.inj H
  go_enter Tryd.func118,Tryd.ntmps118
  go_wp2_with (first | ((with_reducible refine gate_dst (N:=2) rfl ?_);refine box_event ?hg (N:=2) ?hd (cs:=#[.int .i64 a0_0,.bool a0_1]) (t:=85) ?hr ?_;(case hd=>rfl);(case hg=>rfl);(case hr=>first | (go_simp;done) | (go_simp;rfl));intro gb318 hg w15 hbox hb;have n0_:=aM_ (bT_ (by exact bZ_ HB) hb);have n1_:=aM_ (hbox);have n2_:=aM_ ((by rw [hg];exact (bS_ (by exact bZ_ HB)) : w.heap.size ≤ gb318));have n3_:=aM_ ((by rw [hg];exact (bS_ (by exact bZ_ HB)) : w.heap.size ≤ gb318));clear HB;have HB:=n0_;have BK318:=n1_;have GW318:=n2_;have GE318:=n3_;clear n0_ n1_ n2_ n3_;clear hb hbox hg) | ((with_reducible refine gate_dst (N:=3) rfl ?_);refine box_event ?hg (N:=3) ?hd (cs:=#[.int .i64 a1_0,.bool a1_1]) (t:=85) ?hr ?_;(case hd=>rfl);(case hg=>rfl);(case hr=>first | (go_simp;done) | (go_simp;rfl));intro gb319 hg w16 hbox hb;have n0_:=aM_ (blk_below (g:=gb318) (o:=.cells #[.int .i64 a0_0,.bool a0_1] 85 (0,0)) (by exact kZ_ BK318) hb);have n1_:=aM_ (bT_ (by exact bZ_ HB) hb);have n2_:=aM_ (hbox);have n3_:=aM_ ((by rw [hg];exact (bS_ (by exact bZ_ HB)) : w.heap.size ≤ gb319));have n4_:=aM_ ((by rw [hg];exact (bS_ (by exact bZ_ HB)) : w.heap.size ≤ gb319));have n5_:=aM_ ((by rw [hg];exact nN_ (blk_lt (g:=gb318) (o:=.cells #[.int .i64 a0_0,.bool a0_1] 85 (0,0)) (by exact kZ_ BK318)) : gb318 ≠ gb319));have n6_:=aM_ ((by rw [hg];exact Nat.ne_of_gt (blk_lt (g:=gb318) (o:=.cells #[.int .i64 a0_0,.bool a0_1] 85 (0,0)) (by exact kZ_ BK318)) : gb319 ≠ gb318));clear BK318;clear HB;have BK318:=n0_;have HB:=n1_;have BK319:=n2_;have GW319:=n3_;have GE319:=n4_;have NB318_319:=n5_;have NB319_318:=n6_;clear n0_ n1_ n2_ n3_ n4_ n5_ n6_;clear hb hbox hg;have hnb17:=NB318_319.out;have hnc17:=NB319_318.out;have hcz18_0 : w16.cell? ⟨gb318,0,none⟩ = some (.int .i64 a0_0):=(kC_ BK318.out 0).trans rfl;have hcz18_1 : w16.cell? ⟨gb318,1,none⟩ = some (.bool a0_1):=(kC_ BK318.out 1).trans rfl;have hfz18_0:=kF_ BK318.out 0;have hfz18_1:=kF_ BK318.out 1;have hcz19_0 : w16.cell? ⟨gb319,0,none⟩ = some (.int .i64 a1_0):=(kC_ BK319.out 0).trans rfl;have hcz19_1 : w16.cell? ⟨gb319,1,none⟩ = some (.bool a1_1):=(kC_ BK319.out 1).trans rfl;have hfz19_0:=kF_ BK319.out 0;have hfz19_1:=kF_ BK319.out 1))
  go_ret
  exact ⟨by first | rfl | (simp [errW_none,errW_some] <;> rfl) | (simp [*, errW_none,errW_some] <;> rfl),by exact bZ_ HB⟩
end Go.Proofs.YtipehkeabnfngaaDoor.PFnExactDefText
