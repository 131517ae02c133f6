import Derived.Test.YtllgmgpfdnofmaaZSDPFnExactSameDefx0
import Derived.Test.YtllgmgpfdnofmaaZSDPFnExactSameDefx3
import Derived.Test.YtllgmgpfdnofmaaZSDPFnExactSameDefx4
import Derived.Test.YtllgmgpfdnofmaaZSDPFnExactSameDefx5
import Derived.Test.YtllgmgpfdnofmaaZSDPFnExactSameDefx6
import Derived.Test.YtllgmgpfdnofmaaZSDPFnExactSameDefx8
namespace Go.Proofs.Ytllgmgpfdnofmaa.PFnExactSameDef
open Go.RowKit Go.Proofs.YtllgmgpfdnofmaaW.PrintWords Go.Proofs.YtllgmgpfdnofmaaW.PrintLast Go.Proofs.YtllgmgpfdnofmaaW.PrintMore Go.Proofs.Ytllgmgpfdnofmaa.Xtra
attribute [local go_sem] max2_int min2_int max_two min_two max_three min_three max_four min_four str_leq str_gtr str_geq setCell_drewN cell_set2 cell_set3   -- for this text's walks alone
set_option linter.unusedVariables false
set_option linter.unusedSimpArgs false
def laws_FnExactSameDef.f (k : Nat) (a0_0 : ByteArray) (l0_1 : List (S179)) (l0_2 : List (S187)) (l0_3 : List (S182)) (a1_0 : ByteArray) (l1_1 : List (S179)) (l1_2 : List (S187)) (l1_3 : List (S182)) : Option (Bool):=(laws_szDef.f k a0_0 l0_1 l0_2 l0_3 1048576).bind fun t208=>(if t208 < 0 then (some true) else ((laws_szDef.f k a1_0 l1_1 l1_2 l1_3 t208).bind fun t209=>(if t209 < 0 then (some true) else ((laws_toDef.f k a0_0 l0_1 l0_2 l0_3).bind fun bt210=>((laws_toDef.f k a1_0 l1_1 l1_2 l1_3).bind fun bt220=>((spec_SameDef.f k bt210.1 bt210.2.1 bt210.2.2.1 bt210.2.2.2 bt220.1 bt220.2.1 bt220.2.2.1 bt220.2.2.2).bind fun t230=>((laws_toDef.f k a0_0 l0_1 l0_2 l0_3).bind fun bt231=>((laws_toDef.f k a1_0 l1_1 l1_2 l1_3).bind fun bt242=>((impl_SameDef.f k bt231.1 bt231.2.1 bt231.2.2.1 bt231.2.2.2 bt242.1 bt242.2.1 bt242.2.2.1 bt242.2.2.2).bind fun t253=>(if (t253 != t230) = true then (some false) else ((laws_toDef.f k a0_0 l0_1 l0_2 l0_3).bind fun bt254=>((laws_eqDef.f k bt231.1 bt231.2.1 bt231.2.2.1 bt231.2.2.2 bt254.1 bt254.2.1 bt254.2.2.1 bt254.2.2.2).bind fun t264=>(if t264 = true then ((laws_toDef.f k a1_0 l1_1 l1_2 l1_3).bind fun bt265=>((laws_eqDef.f k bt242.1 bt242.2.1 bt242.2.2.1 bt242.2.2.2 bt265.1 bt265.2.1 bt265.2.2.1 bt265.2.2.2).bind fun t275=>(if t275 = true then (some true) else (some false)))) else (some false))))))))))))))
theorem laws_FnExactSameDef.mono : ∀ a0 a1 a2 a3 a4 a5 a6 a7 k,LeO (laws_FnExactSameDef.f k a0 a1 a2 a3 a4 a5 a6 a7) (laws_FnExactSameDef.f (k + 1) a0 a1 a2 a3 a4 a5 a6 a7):=by
 intro a0 a1 a2 a3 a4 a5 a6 a7 k
 unfold laws_FnExactSameDef.f
 repeat' first
   | (with_reducible exact impl_SameDef.mono _ _ _ _ _ _ _ _ _)
   | (with_reducible exact laws_eqDef.mono _ _ _ _ _ _ _ _ _)
   | (with_reducible exact laws_szDef.mono _ _ _ _ _ _)
   | (with_reducible exact laws_toDef.mono _ _ _ _ _)
   | (with_reducible exact spec_SameDef.mono _ _ _ _ _ _ _ _ _)
   | (with_reducible exact LeO.refl _)
   | (with_reducible exact LeO.none _)
   | (with_reducible refine LeO.ite ?_ ?_)
   | (with_reducible refine LeO.bind ?_ (fun _=>?_))
   | exact impl_SameDef.mono _ _ _ _ _ _ _ _ _
   | exact laws_eqDef.mono _ _ _ _ _ _ _ _ _
   | exact laws_szDef.mono _ _ _ _ _ _
   | exact laws_toDef.mono _ _ _ _ _
   | exact spec_SameDef.mono _ _ _ _ _ _ _ _ _
   | exact LeO.none _
   | refine LeO.ite ?_ ?_
   | refine LeO.bind ?_ (fun _=>?_)
set_option maxHeartbeats 8000000 in
set_option maxRecDepth 100000 in
theorem laws_FnExactSameDef.calls (k : Nat) (a0_0 : ByteArray) (A0_1 : Option Addr) (c0_1 : Nat) (l0_1 : List (S179)) (A0_2 : Option Addr) (c0_2 : Nat) (l0_2 : List (S187)) (A0_3 : Option Addr) (c0_3 : Nat) (l0_3 : List (S182)) (a1_0 : ByteArray) (A1_1 : Option Addr) (c1_1 : Nat) (l1_1 : List (S179)) (A1_2 : Option Addr) (c1_2 : Nat) (l1_2 : List (S187)) (A1_3 : Option Addr) (c1_3 : Nat) (l1_3 : List (S182)) (r : Bool) (w : World) (hr0_1 : Kd.C k179 w A0_1 l0_1.length l0_1) (hc0_1 : l0_1.length ≤ c0_1) (hr0_2 : Kd.C k187 w A0_2 l0_2.length l0_2) (hc0_2 : l0_2.length ≤ c0_2) (hr0_3 : Kd.C k182 w A0_3 l0_3.length l0_3) (hc0_3 : l0_3.length ≤ c0_3) (hr1_1 : Kd.C k179 w A1_1 l1_1.length l1_1) (hc1_1 : l1_1.length ≤ c1_1) (hr1_2 : Kd.C k187 w A1_2 l1_2.length l1_2) (hc1_2 : l1_2.length ≤ c1_2) (hr1_3 : Kd.C k182 w A1_3 l1_3.length l1_3) (hc1_3 : l1_3.length ≤ c1_3) (hr_ : Aside0 (r = true)) (h : laws_FnExactSameDef.f k a0_0 l0_1 l0_2 l0_3 a1_0 l1_1 l1_2 l1_3 = some r) :
  Calls Try.prog 11 #[.agg #[.string a0_0,.slice A0_1 l0_1.length c0_1,.slice A0_2 l0_2.length c0_2,.slice A0_3 l0_3.length c0_3],.agg #[.string a1_0,.slice A1_1 l1_1.length c1_1,.slice A1_2 l1_2.length c1_2,.slice A1_3 l1_3.length c1_3]] w fun e w'=>e = .returned (.bool r) ∧ Below w.heap.size w w':=by
 have hu80:=Try.underlying80
 have hu87:=Try.underlying87
 have HR0_1:=aM_ hr0_1
 have HC0_1:=aM_ hc0_1
 clear hr0_1 hc0_1
 have HR0_2:=aM_ hr0_2
 have HC0_2:=aM_ hc0_2
 clear hr0_2 hc0_2
 have HR0_3:=aM_ hr0_3
 have HC0_3:=aM_ hc0_3
 clear hr0_3 hc0_3
 have HR1_1:=aM_ hr1_1
 have HC1_1:=aM_ hc1_1
 clear hr1_1 hc1_1
 have HR1_2:=aM_ hr1_2
 have HC1_2:=aM_ hc1_2
 clear hr1_2 hc1_2
 have HR1_3:=aM_ hr1_3
 have HC1_3:=aM_ hc1_3
 clear hr1_3 hc1_3
 have HB:=aM_ (Below.refl w.heap.size w)
 have H : ((laws_szDef.f k a0_0 l0_1 l0_2 l0_3 1048576).bind fun t208=>(if t208 < 0 then (some true) else ((laws_szDef.f k a1_0 l1_1 l1_2 l1_3 t208).bind fun t209=>(if t209 < 0 then (some true) else ((laws_toDef.f k a0_0 l0_1 l0_2 l0_3).bind fun bt210=>((laws_toDef.f k a1_0 l1_1 l1_2 l1_3).bind fun bt220=>((spec_SameDef.f k bt210.1 bt210.2.1 bt210.2.2.1 bt210.2.2.2 bt220.1 bt220.2.1 bt220.2.2.1 bt220.2.2.2).bind fun t230=>((laws_toDef.f k a0_0 l0_1 l0_2 l0_3).bind fun bt231=>((laws_toDef.f k a1_0 l1_1 l1_2 l1_3).bind fun bt242=>((impl_SameDef.f k bt231.1 bt231.2.1 bt231.2.2.1 bt231.2.2.2 bt242.1 bt242.2.1 bt242.2.2.1 bt242.2.2.2).bind fun t253=>(if (t253 != t230) = true then (some false) else ((laws_toDef.f k a0_0 l0_1 l0_2 l0_3).bind fun bt254=>((laws_eqDef.f k bt231.1 bt231.2.1 bt231.2.2.1 bt231.2.2.2 bt254.1 bt254.2.1 bt254.2.2.1 bt254.2.2.2).bind fun t264=>(if t264 = true then ((laws_toDef.f k a1_0 l1_1 l1_2 l1_3).bind fun bt265=>((laws_eqDef.f k bt242.1 bt242.2.1 bt242.2.2.1 bt242.2.2.2 bt265.1 bt265.2.1 bt265.2.2.1 bt265.2.2.2).bind fun t275=>(if t275 = true then (some true) else (some false)))) else (some false))))))))))))))) = some r:=h
 clear h
 replace H:=oB_ H
 obtain ⟨t208,A30,H⟩:=H
 replace H : (if t208 < 0 then (some true) else ((laws_szDef.f k a1_0 l1_1 l1_2 l1_3 t208).bind fun t209=>(if t209 < 0 then (some true) else ((laws_toDef.f k a0_0 l0_1 l0_2 l0_3).bind fun bt210=>((laws_toDef.f k a1_0 l1_1 l1_2 l1_3).bind fun bt220=>((spec_SameDef.f k bt210.1 bt210.2.1 bt210.2.2.1 bt210.2.2.2 bt220.1 bt220.2.1 bt220.2.2.1 bt220.2.2.2).bind fun t230=>((laws_toDef.f k a0_0 l0_1 l0_2 l0_3).bind fun bt231=>((laws_toDef.f k a1_0 l1_1 l1_2 l1_3).bind fun bt242=>((impl_SameDef.f k bt231.1 bt231.2.1 bt231.2.2.1 bt231.2.2.2 bt242.1 bt242.2.1 bt242.2.2.1 bt242.2.2.2).bind fun t253=>(if (t253 != t230) = true then (some false) else ((laws_toDef.f k a0_0 l0_1 l0_2 l0_3).bind fun bt254=>((laws_eqDef.f k bt231.1 bt231.2.1 bt231.2.2.1 bt231.2.2.2 bt254.1 bt254.2.1 bt254.2.2.1 bt254.2.2.2).bind fun t264=>(if t264 = true then ((laws_toDef.f k a1_0 l1_1 l1_2 l1_3).bind fun bt265=>((laws_eqDef.f k bt242.1 bt242.2.1 bt242.2.2.1 bt242.2.2.2 bt265.1 bt265.2.1 bt265.2.2.1 bt265.2.2.2).bind fun t275=>(if t275 = true then (some true) else (some false)))) else (some false)))))))))))))) = some r:=H
 have A3:=aM_ A30
 clear A30
 by_cases c4 : t208 < 0
 ·rw [if_pos c4] at H
  have c4b0 : decide (t208 < 0) = true:=decide_eq_true c4
  clear c4
  obtain rfl:=Option.some.inj H
  go_enter Try.func11,Try.ntmps11
  go_wp2_with (first | ((with_reducible refine gate_dst (N:=2) rfl ?_);refine box_event ?hg (N:=2) ?hd (cs:=#[.string a0_0,.slice A0_1 l0_1.length c0_1,.slice A0_2 l0_2.length c0_2,.slice A0_3 l0_3.length c0_3]) (t:=80) ?hr ?_;(case hd=>rfl);(case hg=>rfl);(case hr=>first | (go_simp;done) | (go_simp;rfl));intro gb206 hg w5 hbox hb;have n0_:=aM_ (bT_ (by exact bZ_ HB) hb);have n1_:=aM_ (hbox);have n2_:=aM_ ((by rw [hg];exact (bS_ (by exact bZ_ HB)) : w.heap.size ≤ gb206));have n3_:=aM_ ((by rw [hg];exact (bS_ (by exact bZ_ HB)) : w.heap.size ≤ gb206));clear HB;have HB:=n0_;have BK206:=n1_;have GW206:=n2_;have GE206:=n3_;clear n0_ n1_ n2_ n3_ hb hbox hg) | ((with_reducible refine gate_dst (N:=3) rfl ?_);refine box_event ?hg (N:=3) ?hd (cs:=#[.string a1_0,.slice A1_1 l1_1.length c1_1,.slice A1_2 l1_2.length c1_2,.slice A1_3 l1_3.length c1_3]) (t:=80) ?hr ?_;(case hd=>rfl);(case hg=>rfl);(case hr=>first | (go_simp;done) | (go_simp;rfl));intro gb207 hg w6 hbox hb;have n0_:=aM_ (blk_below (g:=gb206) (o:=.cells #[.string a0_0,.slice A0_1 l0_1.length c0_1,.slice A0_2 l0_2.length c0_2,.slice A0_3 l0_3.length c0_3] 80 (0,0)) (by exact kZ_ BK206) hb);have n1_:=aM_ (bT_ (by exact bZ_ HB) hb);have n2_:=aM_ (hbox);have n3_:=aM_ ((by rw [hg];exact (bS_ (by exact bZ_ HB)) : w.heap.size ≤ gb207));have n4_:=aM_ ((by rw [hg];exact (bS_ (by exact bZ_ HB)) : w.heap.size ≤ gb207));have n5_:=aM_ ((by rw [hg];exact nN_ (blk_lt (g:=gb206) (o:=.cells #[.string a0_0,.slice A0_1 l0_1.length c0_1,.slice A0_2 l0_2.length c0_2,.slice A0_3 l0_3.length c0_3] 80 (0,0)) (by exact kZ_ BK206)) : gb206 ≠ gb207));have n6_:=aM_ ((by rw [hg];exact Nat.ne_of_gt (blk_lt (g:=gb206) (o:=.cells #[.string a0_0,.slice A0_1 l0_1.length c0_1,.slice A0_2 l0_2.length c0_2,.slice A0_3 l0_3.length c0_3] 80 (0,0)) (by exact kZ_ BK206)) : gb207 ≠ gb206));clear BK206 HB;have BK206:=n0_;have HB:=n1_;have BK207:=n2_;have GW207:=n3_;have GE207:=n4_;have NB206_207:=n5_;have NB207_206:=n6_;clear n0_ n1_ n2_ n3_ n4_ n5_ n6_ hb hbox hg;have hnb7:=NB206_207.out;have hnc7:=NB207_206.out;have hcz8_0 : w6.cell? ⟨gb206,0,none⟩ = some (.string a0_0):=(kC_ BK206.out 0).trans rfl;have hcz8_1 : w6.cell? ⟨gb206,1,none⟩ = some (.slice A0_1 l0_1.length c0_1):=(kC_ BK206.out 1).trans rfl;have hcz8_2 : w6.cell? ⟨gb206,2,none⟩ = some (.slice A0_2 l0_2.length c0_2):=(kC_ BK206.out 2).trans rfl;have hcz8_3 : w6.cell? ⟨gb206,3,none⟩ = some (.slice A0_3 l0_3.length c0_3):=(kC_ BK206.out 3).trans rfl;have hfz8_0:=kF_ BK206.out 0;have hfz8_1:=kF_ BK206.out 1;have hfz8_2:=kF_ BK206.out 2;have hfz8_3:=kF_ BK206.out 3) | ((with_reducible refine gate_callee (f:=61) rfl ?_);refine goesL_ (some 12) rfl rfl Try.func61 (by kernel_rfl) rfl #[.agg #[.string a0_0,.slice A0_1 l0_1.length c0_1,.slice A0_2 l0_2.length c0_2,.slice A0_3 l0_3.length c0_3],.int .i64 1048576] rfl (by (try simp only [mA_,mC_,mN_]);first | done | rfl | (simp only [lD_,lT_];rfl)) ?_;(with_reducible refine (laws_szDef.calls k a0_0 _ _ l0_1 _ _ l0_2 _ _ l0_3 1048576 t208 _ ?side1 ?side2 ?side3 ?side4 ?side5 ?side6 A3.out).mono ?_);(case side1=>repeat (first | exact (Kd.C_below HR0_1.out HB.out) | (with_reducible refine cA_ ?_ _) | (with_reducible refine cN_ ?_ _) | (with_reducible refine cD_ ?_)));(case side2=>exact HC0_1.out);(case side3=>repeat (first | exact (Kd.C_below HR0_2.out HB.out) | (with_reducible refine cA_ ?_ _) | (with_reducible refine cN_ ?_ _) | (with_reducible refine cD_ ?_)));(case side4=>exact HC0_2.out);(case side5=>repeat (first | exact (Kd.C_below HR0_3.out HB.out) | (with_reducible refine cA_ ?_ _) | (with_reducible refine cN_ ?_ _) | (with_reducible refine cD_ ?_)));(case side6=>exact HC0_3.out);rintro e w9 ⟨rfl,hb⟩;refine ⟨_,rfl,?_⟩;have n0_:=aM_ (blk_below (g:=gb206) (o:=.cells #[.string a0_0,.slice A0_1 l0_1.length c0_1,.slice A0_2 l0_2.length c0_2,.slice A0_3 l0_3.length c0_3] 80 (0,0)) (by exact kZ_ BK206) hb);have n1_:=aM_ (blk_below (g:=gb207) (o:=.cells #[.string a1_0,.slice A1_1 l1_1.length c1_1,.slice A1_2 l1_2.length c1_2,.slice A1_3 l1_3.length c1_3] 80 (0,0)) (by exact kZ_ BK207) hb);have n2_:=aM_ (bT_ (by exact bZ_ HB) hb);clear BK206 BK207 HB;have BK206:=n0_;have BK207:=n1_;have HB:=n2_;clear n0_ n1_ n2_ hb))
  go_ret
  exact ⟨by first | rfl | (simp [errW_none,errW_some] <;> rfl) | (simp [*, errW_none,errW_some] <;> rfl),by exact bZ_ HB⟩
 ·rw [if_neg c4] at H
  have c4b0 : decide (t208 < 0) = false:=decide_eq_false c4
  clear c4
  replace H:=oB_ H
  obtain ⟨t209,A100,H⟩:=H
  replace H : (if t209 < 0 then (some true) else ((laws_toDef.f k a0_0 l0_1 l0_2 l0_3).bind fun bt210=>((laws_toDef.f k a1_0 l1_1 l1_2 l1_3).bind fun bt220=>((spec_SameDef.f k bt210.1 bt210.2.1 bt210.2.2.1 bt210.2.2.2 bt220.1 bt220.2.1 bt220.2.2.1 bt220.2.2.2).bind fun t230=>((laws_toDef.f k a0_0 l0_1 l0_2 l0_3).bind fun bt231=>((laws_toDef.f k a1_0 l1_1 l1_2 l1_3).bind fun bt242=>((impl_SameDef.f k bt231.1 bt231.2.1 bt231.2.2.1 bt231.2.2.2 bt242.1 bt242.2.1 bt242.2.2.1 bt242.2.2.2).bind fun t253=>(if (t253 != t230) = true then (some false) else ((laws_toDef.f k a0_0 l0_1 l0_2 l0_3).bind fun bt254=>((laws_eqDef.f k bt231.1 bt231.2.1 bt231.2.2.1 bt231.2.2.2 bt254.1 bt254.2.1 bt254.2.2.1 bt254.2.2.2).bind fun t264=>(if t264 = true then ((laws_toDef.f k a1_0 l1_1 l1_2 l1_3).bind fun bt265=>((laws_eqDef.f k bt242.1 bt242.2.1 bt242.2.2.1 bt242.2.2.2 bt265.1 bt265.2.1 bt265.2.2.1 bt265.2.2.2).bind fun t275=>(if t275 = true then (some true) else (some false)))) else (some false)))))))))))) = some r:=H
  have A10:=aM_ A100
  clear A100
  by_cases c11 : t209 < 0
  ·rw [if_pos c11] at H
   have c11b0 : decide (t209 < 0) = true:=decide_eq_true c11
   clear c11
   obtain rfl:=Option.some.inj H
   go_enter Try.func11,Try.ntmps11
   go_wp2_with (first | ((with_reducible refine gate_dst (N:=2) rfl ?_);refine box_event ?hg (N:=2) ?hd (cs:=#[.string a0_0,.slice A0_1 l0_1.length c0_1,.slice A0_2 l0_2.length c0_2,.slice A0_3 l0_3.length c0_3]) (t:=80) ?hr ?_;(case hd=>rfl);(case hg=>rfl);(case hr=>first | (go_simp;done) | (go_simp;rfl));intro gb206 hg w12 hbox hb;have n0_:=aM_ (bT_ (by exact bZ_ HB) hb);have n1_:=aM_ (hbox);have n2_:=aM_ ((by rw [hg];exact (bS_ (by exact bZ_ HB)) : w.heap.size ≤ gb206));have n3_:=aM_ ((by rw [hg];exact (bS_ (by exact bZ_ HB)) : w.heap.size ≤ gb206));clear HB;have HB:=n0_;have BK206:=n1_;have GW206:=n2_;have GE206:=n3_;clear n0_ n1_ n2_ n3_ hb hbox hg) | ((with_reducible refine gate_dst (N:=3) rfl ?_);refine box_event ?hg (N:=3) ?hd (cs:=#[.string a1_0,.slice A1_1 l1_1.length c1_1,.slice A1_2 l1_2.length c1_2,.slice A1_3 l1_3.length c1_3]) (t:=80) ?hr ?_;(case hd=>rfl);(case hg=>rfl);(case hr=>first | (go_simp;done) | (go_simp;rfl));intro gb207 hg w13 hbox hb;have n0_:=aM_ (blk_below (g:=gb206) (o:=.cells #[.string a0_0,.slice A0_1 l0_1.length c0_1,.slice A0_2 l0_2.length c0_2,.slice A0_3 l0_3.length c0_3] 80 (0,0)) (by exact kZ_ BK206) hb);have n1_:=aM_ (bT_ (by exact bZ_ HB) hb);have n2_:=aM_ (hbox);have n3_:=aM_ ((by rw [hg];exact (bS_ (by exact bZ_ HB)) : w.heap.size ≤ gb207));have n4_:=aM_ ((by rw [hg];exact (bS_ (by exact bZ_ HB)) : w.heap.size ≤ gb207));have n5_:=aM_ ((by rw [hg];exact nN_ (blk_lt (g:=gb206) (o:=.cells #[.string a0_0,.slice A0_1 l0_1.length c0_1,.slice A0_2 l0_2.length c0_2,.slice A0_3 l0_3.length c0_3] 80 (0,0)) (by exact kZ_ BK206)) : gb206 ≠ gb207));have n6_:=aM_ ((by rw [hg];exact Nat.ne_of_gt (blk_lt (g:=gb206) (o:=.cells #[.string a0_0,.slice A0_1 l0_1.length c0_1,.slice A0_2 l0_2.length c0_2,.slice A0_3 l0_3.length c0_3] 80 (0,0)) (by exact kZ_ BK206)) : gb207 ≠ gb206));clear BK206 HB;have BK206:=n0_;have HB:=n1_;have BK207:=n2_;have GW207:=n3_;have GE207:=n4_;have NB206_207:=n5_;have NB207_206:=n6_;clear n0_ n1_ n2_ n3_ n4_ n5_ n6_ hb hbox hg;have hnb14:=NB206_207.out;have hnc14:=NB207_206.out;have hcz15_0 : w13.cell? ⟨gb206,0,none⟩ = some (.string a0_0):=(kC_ BK206.out 0).trans rfl;have hcz15_1 : w13.cell? ⟨gb206,1,none⟩ = some (.slice A0_1 l0_1.length c0_1):=(kC_ BK206.out 1).trans rfl;have hcz15_2 : w13.cell? ⟨gb206,2,none⟩ = some (.slice A0_2 l0_2.length c0_2):=(kC_ BK206.out 2).trans rfl;have hcz15_3 : w13.cell? ⟨gb206,3,none⟩ = some (.slice A0_3 l0_3.length c0_3):=(kC_ BK206.out 3).trans rfl;have hfz15_0:=kF_ BK206.out 0;have hfz15_1:=kF_ BK206.out 1;have hfz15_2:=kF_ BK206.out 2;have hfz15_3:=kF_ BK206.out 3) | ((with_reducible refine gate_callee (f:=61) rfl ?_);refine goesL_ (some 12) rfl rfl Try.func61 (by kernel_rfl) rfl #[.agg #[.string a0_0,.slice A0_1 l0_1.length c0_1,.slice A0_2 l0_2.length c0_2,.slice A0_3 l0_3.length c0_3],.int .i64 1048576] rfl (by (try simp only [mA_,mC_,mN_]);first | done | rfl | (simp only [lD_,lT_];rfl)) ?_;(with_reducible refine (laws_szDef.calls k a0_0 _ _ l0_1 _ _ l0_2 _ _ l0_3 1048576 t208 _ ?side1 ?side2 ?side3 ?side4 ?side5 ?side6 A3.out).mono ?_);(case side1=>repeat (first | exact (Kd.C_below HR0_1.out HB.out) | (with_reducible refine cA_ ?_ _) | (with_reducible refine cN_ ?_ _) | (with_reducible refine cD_ ?_)));(case side2=>exact HC0_1.out);(case side3=>repeat (first | exact (Kd.C_below HR0_2.out HB.out) | (with_reducible refine cA_ ?_ _) | (with_reducible refine cN_ ?_ _) | (with_reducible refine cD_ ?_)));(case side4=>exact HC0_2.out);(case side5=>repeat (first | exact (Kd.C_below HR0_3.out HB.out) | (with_reducible refine cA_ ?_ _) | (with_reducible refine cN_ ?_ _) | (with_reducible refine cD_ ?_)));(case side6=>exact HC0_3.out);rintro e w16 ⟨rfl,hb⟩;refine ⟨_,rfl,?_⟩;have n0_:=aM_ (blk_below (g:=gb206) (o:=.cells #[.string a0_0,.slice A0_1 l0_1.length c0_1,.slice A0_2 l0_2.length c0_2,.slice A0_3 l0_3.length c0_3] 80 (0,0)) (by exact kZ_ BK206) hb);have n1_:=aM_ (blk_below (g:=gb207) (o:=.cells #[.string a1_0,.slice A1_1 l1_1.length c1_1,.slice A1_2 l1_2.length c1_2,.slice A1_3 l1_3.length c1_3] 80 (0,0)) (by exact kZ_ BK207) hb);have n2_:=aM_ (bT_ (by exact bZ_ HB) hb);clear BK206 BK207 HB;have BK206:=n0_;have BK207:=n1_;have HB:=n2_;clear n0_ n1_ n2_ hb;have hcz17_0 : w16.cell? ⟨gb207,0,none⟩ = some (.string a1_0):=(kC_ BK207.out 0).trans rfl;have hcz17_1 : w16.cell? ⟨gb207,1,none⟩ = some (.slice A1_1 l1_1.length c1_1):=(kC_ BK207.out 1).trans rfl;have hcz17_2 : w16.cell? ⟨gb207,2,none⟩ = some (.slice A1_2 l1_2.length c1_2):=(kC_ BK207.out 2).trans rfl;have hcz17_3 : w16.cell? ⟨gb207,3,none⟩ = some (.slice A1_3 l1_3.length c1_3):=(kC_ BK207.out 3).trans rfl;have hfz17_0:=kF_ BK207.out 0;have hfz17_1:=kF_ BK207.out 1;have hfz17_2:=kF_ BK207.out 2;have hfz17_3:=kF_ BK207.out 3) | ((with_reducible refine gate_callee (f:=61) rfl ?_);refine goesL_ (some 17) rfl rfl Try.func61 (by kernel_rfl) rfl #[.agg #[.string a1_0,.slice A1_1 l1_1.length c1_1,.slice A1_2 l1_2.length c1_2,.slice A1_3 l1_3.length c1_3],.int .i64 t208] rfl (by (try simp only [mA_,mC_,mN_]);first | done | rfl | (simp only [lD_,lT_];rfl)) ?_;(with_reducible refine (laws_szDef.calls k a1_0 _ _ l1_1 _ _ l1_2 _ _ l1_3 t208 t209 _ ?side1 ?side2 ?side3 ?side4 ?side5 ?side6 A10.out).mono ?_);(case side1=>repeat (first | exact (Kd.C_below HR1_1.out HB.out) | (with_reducible refine cA_ ?_ _) | (with_reducible refine cN_ ?_ _) | (with_reducible refine cD_ ?_)));(case side2=>exact HC1_1.out);(case side3=>repeat (first | exact (Kd.C_below HR1_2.out HB.out) | (with_reducible refine cA_ ?_ _) | (with_reducible refine cN_ ?_ _) | (with_reducible refine cD_ ?_)));(case side4=>exact HC1_2.out);(case side5=>repeat (first | exact (Kd.C_below HR1_3.out HB.out) | (with_reducible refine cA_ ?_ _) | (with_reducible refine cN_ ?_ _) | (with_reducible refine cD_ ?_)));(case side6=>exact HC1_3.out);rintro e w18 ⟨rfl,hb⟩;refine ⟨_,rfl,?_⟩;have n0_:=aM_ (blk_below (g:=gb206) (o:=.cells #[.string a0_0,.slice A0_1 l0_1.length c0_1,.slice A0_2 l0_2.length c0_2,.slice A0_3 l0_3.length c0_3] 80 (0,0)) (by exact kZ_ BK206) hb);have n1_:=aM_ (blk_below (g:=gb207) (o:=.cells #[.string a1_0,.slice A1_1 l1_1.length c1_1,.slice A1_2 l1_2.length c1_2,.slice A1_3 l1_3.length c1_3] 80 (0,0)) (by exact kZ_ BK207) hb);have n2_:=aM_ (bT_ (by exact bZ_ HB) hb);clear BK206 BK207 HB;have BK206:=n0_;have BK207:=n1_;have HB:=n2_;clear n0_ n1_ n2_ hb))
   go_ret
   exact ⟨by first | rfl | (simp [errW_none,errW_some] <;> rfl) | (simp [*, errW_none,errW_some] <;> rfl),by exact bZ_ HB⟩
  ·rw [if_neg c11] at H
   have c11b0 : decide (t209 < 0) = false:=decide_eq_false c11
   clear c11
   replace H:=oB_ H
   obtain ⟨⟨t210,t211,t214,t217⟩,A190,H⟩:=H
   replace H : ((laws_toDef.f k a1_0 l1_1 l1_2 l1_3).bind fun bt220=>((spec_SameDef.f k t210 t211 t214 t217 bt220.1 bt220.2.1 bt220.2.2.1 bt220.2.2.2).bind fun t230=>((laws_toDef.f k a0_0 l0_1 l0_2 l0_3).bind fun bt231=>((laws_toDef.f k a1_0 l1_1 l1_2 l1_3).bind fun bt242=>((impl_SameDef.f k bt231.1 bt231.2.1 bt231.2.2.1 bt231.2.2.2 bt242.1 bt242.2.1 bt242.2.2.1 bt242.2.2.2).bind fun t253=>(if (t253 != t230) = true then (some false) else ((laws_toDef.f k a0_0 l0_1 l0_2 l0_3).bind fun bt254=>((laws_eqDef.f k bt231.1 bt231.2.1 bt231.2.2.1 bt231.2.2.2 bt254.1 bt254.2.1 bt254.2.2.1 bt254.2.2.2).bind fun t264=>(if t264 = true then ((laws_toDef.f k a1_0 l1_1 l1_2 l1_3).bind fun bt265=>((laws_eqDef.f k bt242.1 bt242.2.1 bt242.2.2.1 bt242.2.2.2 bt265.1 bt265.2.1 bt265.2.2.1 bt265.2.2.2).bind fun t275=>(if t275 = true then (some true) else (some false)))) else (some false)))))))))) = some r:=H
   have A19:=aM_ A190
   clear A190
   replace H:=oB_ H
   obtain ⟨⟨t220,t221,t224,t227⟩,A200,H⟩:=H
   replace H : ((spec_SameDef.f k t210 t211 t214 t217 t220 t221 t224 t227).bind fun t230=>((laws_toDef.f k a0_0 l0_1 l0_2 l0_3).bind fun bt231=>((laws_toDef.f k a1_0 l1_1 l1_2 l1_3).bind fun bt242=>((impl_SameDef.f k bt231.1 bt231.2.1 bt231.2.2.1 bt231.2.2.2 bt242.1 bt242.2.1 bt242.2.2.1 bt242.2.2.2).bind fun t253=>(if (t253 != t230) = true then (some false) else ((laws_toDef.f k a0_0 l0_1 l0_2 l0_3).bind fun bt254=>((laws_eqDef.f k bt231.1 bt231.2.1 bt231.2.2.1 bt231.2.2.2 bt254.1 bt254.2.1 bt254.2.2.1 bt254.2.2.2).bind fun t264=>(if t264 = true then ((laws_toDef.f k a1_0 l1_1 l1_2 l1_3).bind fun bt265=>((laws_eqDef.f k bt242.1 bt242.2.1 bt242.2.2.1 bt242.2.2.2 bt265.1 bt265.2.1 bt265.2.2.1 bt265.2.2.2).bind fun t275=>(if t275 = true then (some true) else (some false)))) else (some false))))))))) = some r:=H
   have A20:=aM_ A200
   clear A200
   replace H:=oB_ H
   obtain ⟨t230,A210,H⟩:=H
   replace H : ((laws_toDef.f k a0_0 l0_1 l0_2 l0_3).bind fun bt231=>((laws_toDef.f k a1_0 l1_1 l1_2 l1_3).bind fun bt242=>((impl_SameDef.f k bt231.1 bt231.2.1 bt231.2.2.1 bt231.2.2.2 bt242.1 bt242.2.1 bt242.2.2.1 bt242.2.2.2).bind fun t253=>(if (t253 != t230) = true then (some false) else ((laws_toDef.f k a0_0 l0_1 l0_2 l0_3).bind fun bt254=>((laws_eqDef.f k bt231.1 bt231.2.1 bt231.2.2.1 bt231.2.2.2 bt254.1 bt254.2.1 bt254.2.2.1 bt254.2.2.2).bind fun t264=>(if t264 = true then ((laws_toDef.f k a1_0 l1_1 l1_2 l1_3).bind fun bt265=>((laws_eqDef.f k bt242.1 bt242.2.1 bt242.2.2.1 bt242.2.2.2 bt265.1 bt265.2.1 bt265.2.2.1 bt265.2.2.2).bind fun t275=>(if t275 = true then (some true) else (some false)))) else (some false)))))))) = some r:=H
   have A21:=aM_ A210
   clear A210
   replace H:=oB_ H
   obtain ⟨⟨t231,t232,t235,t238⟩,A220,H⟩:=H
   replace H : ((laws_toDef.f k a1_0 l1_1 l1_2 l1_3).bind fun bt242=>((impl_SameDef.f k t231 t232 t235 t238 bt242.1 bt242.2.1 bt242.2.2.1 bt242.2.2.2).bind fun t253=>(if (t253 != t230) = true then (some false) else ((laws_toDef.f k a0_0 l0_1 l0_2 l0_3).bind fun bt254=>((laws_eqDef.f k t231 t232 t235 t238 bt254.1 bt254.2.1 bt254.2.2.1 bt254.2.2.2).bind fun t264=>(if t264 = true then ((laws_toDef.f k a1_0 l1_1 l1_2 l1_3).bind fun bt265=>((laws_eqDef.f k bt242.1 bt242.2.1 bt242.2.2.1 bt242.2.2.2 bt265.1 bt265.2.1 bt265.2.2.1 bt265.2.2.2).bind fun t275=>(if t275 = true then (some true) else (some false)))) else (some false))))))) = some r:=H
   have A22:=aM_ A220
   clear A220
   replace H:=oB_ H
   obtain ⟨⟨t242,t243,t246,t249⟩,A230,H⟩:=H
   replace H : ((impl_SameDef.f k t231 t232 t235 t238 t242 t243 t246 t249).bind fun t253=>(if (t253 != t230) = true then (some false) else ((laws_toDef.f k a0_0 l0_1 l0_2 l0_3).bind fun bt254=>((laws_eqDef.f k t231 t232 t235 t238 bt254.1 bt254.2.1 bt254.2.2.1 bt254.2.2.2).bind fun t264=>(if t264 = true then ((laws_toDef.f k a1_0 l1_1 l1_2 l1_3).bind fun bt265=>((laws_eqDef.f k t242 t243 t246 t249 bt265.1 bt265.2.1 bt265.2.2.1 bt265.2.2.2).bind fun t275=>(if t275 = true then (some true) else (some false)))) else (some false)))))) = some r:=H
   have A23:=aM_ A230
   clear A230
   replace H:=oB_ H
   obtain ⟨t253,A240,H⟩:=H
   replace H : (if (t253 != t230) = true then (some false) else ((laws_toDef.f k a0_0 l0_1 l0_2 l0_3).bind fun bt254=>((laws_eqDef.f k t231 t232 t235 t238 bt254.1 bt254.2.1 bt254.2.2.1 bt254.2.2.2).bind fun t264=>(if t264 = true then ((laws_toDef.f k a1_0 l1_1 l1_2 l1_3).bind fun bt265=>((laws_eqDef.f k t242 t243 t246 t249 bt265.1 bt265.2.1 bt265.2.2.1 bt265.2.2.2).bind fun t275=>(if t275 = true then (some true) else (some false)))) else (some false))))) = some r:=H
   have A24:=aM_ A240
   clear A240
   by_cases c25 : (t253 != t230) = true
   ·rw [if_pos c25] at H
    have c25b0 : (t253 != t230) = true:=c25
    (try (have c25b1 : decide (t253 = t230) = false:=by simpa using c25))
    (try (have c25b2 : (t253 == t230) = false:=by simpa using c25))
    (try (have c25b3 : ¬ (t253 = t230):=by simpa using c25))
    clear c25
    exact absurd (H.trans (congrArg some hr_.out)) (by simp)
   ·rw [if_neg c25] at H
    have c25b0 : (t253 != t230) = false:=by simpa using c25
    (try (have c25b1 : decide (t253 = t230) = true:=by simpa using c25))
    (try (have c25b2 : (t253 == t230) = true:=by simpa using c25))
    clear c25
    replace H:=oB_ H
    obtain ⟨⟨t254,t255,t258,t261⟩,A260,H⟩:=H
    replace H : ((laws_eqDef.f k t231 t232 t235 t238 t254 t255 t258 t261).bind fun t264=>(if t264 = true then ((laws_toDef.f k a1_0 l1_1 l1_2 l1_3).bind fun bt265=>((laws_eqDef.f k t242 t243 t246 t249 bt265.1 bt265.2.1 bt265.2.2.1 bt265.2.2.2).bind fun t275=>(if t275 = true then (some true) else (some false)))) else (some false))) = some r:=H
    have A26:=aM_ A260
    clear A260
    replace H:=oB_ H
    obtain ⟨t264,A270,H⟩:=H
    replace H : (if t264 = true then ((laws_toDef.f k a1_0 l1_1 l1_2 l1_3).bind fun bt265=>((laws_eqDef.f k t242 t243 t246 t249 bt265.1 bt265.2.1 bt265.2.2.1 bt265.2.2.2).bind fun t275=>(if t275 = true then (some true) else (some false)))) else (some false)) = some r:=H
    have A27:=aM_ A270
    clear A270
    by_cases c28 : t264 = true
    ·subst c28
     have H1 : ((laws_toDef.f k a1_0 l1_1 l1_2 l1_3).bind fun bt265=>((laws_eqDef.f k t242 t243 t246 t249 bt265.1 bt265.2.1 bt265.2.2.1 bt265.2.2.2).bind fun t275=>(if t275 = true then (some true) else (some false)))) = some r:=by rw [if_pos rfl] at H;exact H
     clear H
     have H:=H1
     clear H1
     replace H:=oB_ H
     obtain ⟨⟨t265,t266,t269,t272⟩,A290,H⟩:=H
     replace H : ((laws_eqDef.f k t242 t243 t246 t249 t265 t266 t269 t272).bind fun t275=>(if t275 = true then (some true) else (some false))) = some r:=H
     have A29:=aM_ A290
     clear A290
     replace H:=oB_ H
     obtain ⟨t275,A300,H⟩:=H
     replace H : (if t275 = true then (some true) else (some false)) = some r:=H
     have A30:=aM_ A300
     clear A300
     by_cases c31 : t275 = true
     ·subst c31
      have H1 : (some true) = some r:=by rw [if_pos rfl] at H;exact H
      clear H
      have H:=H1
      clear H1
      obtain rfl:=Option.some.inj H
      go_enter Try.func11,Try.ntmps11
      try go_wp2_with (first | ((with_reducible refine gate_dst (N:=2) rfl ?_);refine box_event ?hg (N:=2) ?hd (cs:=#[.string a0_0,.slice A0_1 l0_1.length c0_1,.slice A0_2 l0_2.length c0_2,.slice A0_3 l0_3.length c0_3]) (t:=80) ?hr ?_;(case hd=>rfl);(case hg=>rfl);(case hr=>first | (go_simp;done) | (go_simp;rfl));intro gb206 hg w32 hbox hb;have n0_:=aM_ (bT_ (by exact bZ_ HB) hb);have n1_:=aM_ (hbox);have n2_:=aM_ ((by rw [hg];exact (bS_ (by exact bZ_ HB)) : w.heap.size ≤ gb206));have n3_:=aM_ ((by rw [hg];exact (bS_ (by exact bZ_ HB)) : w.heap.size ≤ gb206));clear HB;have HB:=n0_;have BK206:=n1_;have GW206:=n2_;have GE206:=n3_;clear n0_ n1_ n2_ n3_ hb hbox hg) | ((with_reducible refine gate_dst (N:=3) rfl ?_);refine box_event ?hg (N:=3) ?hd (cs:=#[.string a1_0,.slice A1_1 l1_1.length c1_1,.slice A1_2 l1_2.length c1_2,.slice A1_3 l1_3.length c1_3]) (t:=80) ?hr ?_;(case hd=>rfl);(case hg=>rfl);(case hr=>first | (go_simp;done) | (go_simp;rfl));intro gb207 hg w33 hbox hb;have n0_:=aM_ (blk_below (g:=gb206) (o:=.cells #[.string a0_0,.slice A0_1 l0_1.length c0_1,.slice A0_2 l0_2.length c0_2,.slice A0_3 l0_3.length c0_3] 80 (0,0)) (by exact kZ_ BK206) hb);have n1_:=aM_ (bT_ (by exact bZ_ HB) hb);have n2_:=aM_ (hbox);have n3_:=aM_ ((by rw [hg];exact (bS_ (by exact bZ_ HB)) : w.heap.size ≤ gb207));have n4_:=aM_ ((by rw [hg];exact (bS_ (by exact bZ_ HB)) : w.heap.size ≤ gb207));have n5_:=aM_ ((by rw [hg];exact nN_ (blk_lt (g:=gb206) (o:=.cells #[.string a0_0,.slice A0_1 l0_1.length c0_1,.slice A0_2 l0_2.length c0_2,.slice A0_3 l0_3.length c0_3] 80 (0,0)) (by exact kZ_ BK206)) : gb206 ≠ gb207));have n6_:=aM_ ((by rw [hg];exact Nat.ne_of_gt (blk_lt (g:=gb206) (o:=.cells #[.string a0_0,.slice A0_1 l0_1.length c0_1,.slice A0_2 l0_2.length c0_2,.slice A0_3 l0_3.length c0_3] 80 (0,0)) (by exact kZ_ BK206)) : gb207 ≠ gb206));clear BK206 HB;have BK206:=n0_;have HB:=n1_;have BK207:=n2_;have GW207:=n3_;have GE207:=n4_;have NB206_207:=n5_;have NB207_206:=n6_;clear n0_ n1_ n2_ n3_ n4_ n5_ n6_ hb hbox hg;have hnb34:=NB206_207.out;have hnc34:=NB207_206.out;have hcz35_0 : w33.cell? ⟨gb206,0,none⟩ = some (.string a0_0):=(kC_ BK206.out 0).trans rfl;have hcz35_1 : w33.cell? ⟨gb206,1,none⟩ = some (.slice A0_1 l0_1.length c0_1):=(kC_ BK206.out 1).trans rfl;have hcz35_2 : w33.cell? ⟨gb206,2,none⟩ = some (.slice A0_2 l0_2.length c0_2):=(kC_ BK206.out 2).trans rfl;have hcz35_3 : w33.cell? ⟨gb206,3,none⟩ = some (.slice A0_3 l0_3.length c0_3):=(kC_ BK206.out 3).trans rfl;have hfz35_0:=kF_ BK206.out 0;have hfz35_1:=kF_ BK206.out 1;have hfz35_2:=kF_ BK206.out 2;have hfz35_3:=kF_ BK206.out 3) | ((with_reducible refine gate_callee (f:=61) rfl ?_);refine goesL_ (some 12) rfl rfl Try.func61 (by kernel_rfl) rfl #[.agg #[.string a0_0,.slice A0_1 l0_1.length c0_1,.slice A0_2 l0_2.length c0_2,.slice A0_3 l0_3.length c0_3],.int .i64 1048576] rfl (by (try simp only [mA_,mC_,mN_]);first | done | rfl | (simp only [lD_,lT_];rfl)) ?_;(with_reducible refine (laws_szDef.calls k a0_0 _ _ l0_1 _ _ l0_2 _ _ l0_3 1048576 t208 _ ?side1 ?side2 ?side3 ?side4 ?side5 ?side6 A3.out).mono ?_);(case side1=>repeat (first | exact (Kd.C_below HR0_1.out HB.out) | (with_reducible refine cA_ ?_ _) | (with_reducible refine cN_ ?_ _) | (with_reducible refine cD_ ?_)));(case side2=>exact HC0_1.out);(case side3=>repeat (first | exact (Kd.C_below HR0_2.out HB.out) | (with_reducible refine cA_ ?_ _) | (with_reducible refine cN_ ?_ _) | (with_reducible refine cD_ ?_)));(case side4=>exact HC0_2.out);(case side5=>repeat (first | exact (Kd.C_below HR0_3.out HB.out) | (with_reducible refine cA_ ?_ _) | (with_reducible refine cN_ ?_ _) | (with_reducible refine cD_ ?_)));(case side6=>exact HC0_3.out);rintro e w36 ⟨rfl,hb⟩;refine ⟨_,rfl,?_⟩;have n0_:=aM_ (blk_below (g:=gb206) (o:=.cells #[.string a0_0,.slice A0_1 l0_1.length c0_1,.slice A0_2 l0_2.length c0_2,.slice A0_3 l0_3.length c0_3] 80 (0,0)) (by exact kZ_ BK206) hb);have n1_:=aM_ (blk_below (g:=gb207) (o:=.cells #[.string a1_0,.slice A1_1 l1_1.length c1_1,.slice A1_2 l1_2.length c1_2,.slice A1_3 l1_3.length c1_3] 80 (0,0)) (by exact kZ_ BK207) hb);have n2_:=aM_ (bT_ (by exact bZ_ HB) hb);clear BK206 BK207 HB;have BK206:=n0_;have BK207:=n1_;have HB:=n2_;clear n0_ n1_ n2_ hb;have hcz37_0 : w36.cell? ⟨gb207,0,none⟩ = some (.string a1_0):=(kC_ BK207.out 0).trans rfl;have hcz37_1 : w36.cell? ⟨gb207,1,none⟩ = some (.slice A1_1 l1_1.length c1_1):=(kC_ BK207.out 1).trans rfl;have hcz37_2 : w36.cell? ⟨gb207,2,none⟩ = some (.slice A1_2 l1_2.length c1_2):=(kC_ BK207.out 2).trans rfl;have hcz37_3 : w36.cell? ⟨gb207,3,none⟩ = some (.slice A1_3 l1_3.length c1_3):=(kC_ BK207.out 3).trans rfl;have hfz37_0:=kF_ BK207.out 0;have hfz37_1:=kF_ BK207.out 1;have hfz37_2:=kF_ BK207.out 2;have hfz37_3:=kF_ BK207.out 3) | ((with_reducible refine gate_callee (f:=61) rfl ?_);refine goesL_ (some 17) rfl rfl Try.func61 (by kernel_rfl) rfl #[.agg #[.string a1_0,.slice A1_1 l1_1.length c1_1,.slice A1_2 l1_2.length c1_2,.slice A1_3 l1_3.length c1_3],.int .i64 t208] rfl (by (try simp only [mA_,mC_,mN_]);first | done | rfl | (simp only [lD_,lT_];rfl)) ?_;(with_reducible refine (laws_szDef.calls k a1_0 _ _ l1_1 _ _ l1_2 _ _ l1_3 t208 t209 _ ?side1 ?side2 ?side3 ?side4 ?side5 ?side6 A10.out).mono ?_);(case side1=>repeat (first | exact (Kd.C_below HR1_1.out HB.out) | (with_reducible refine cA_ ?_ _) | (with_reducible refine cN_ ?_ _) | (with_reducible refine cD_ ?_)));(case side2=>exact HC1_1.out);(case side3=>repeat (first | exact (Kd.C_below HR1_2.out HB.out) | (with_reducible refine cA_ ?_ _) | (with_reducible refine cN_ ?_ _) | (with_reducible refine cD_ ?_)));(case side4=>exact HC1_2.out);(case side5=>repeat (first | exact (Kd.C_below HR1_3.out HB.out) | (with_reducible refine cA_ ?_ _) | (with_reducible refine cN_ ?_ _) | (with_reducible refine cD_ ?_)));(case side6=>exact HC1_3.out);rintro e w38 ⟨rfl,hb⟩;refine ⟨_,rfl,?_⟩;have n0_:=aM_ (blk_below (g:=gb206) (o:=.cells #[.string a0_0,.slice A0_1 l0_1.length c0_1,.slice A0_2 l0_2.length c0_2,.slice A0_3 l0_3.length c0_3] 80 (0,0)) (by exact kZ_ BK206) hb);have n1_:=aM_ (blk_below (g:=gb207) (o:=.cells #[.string a1_0,.slice A1_1 l1_1.length c1_1,.slice A1_2 l1_2.length c1_2,.slice A1_3 l1_3.length c1_3] 80 (0,0)) (by exact kZ_ BK207) hb);have n2_:=aM_ (bT_ (by exact bZ_ HB) hb);clear BK206 BK207 HB;have BK206:=n0_;have BK207:=n1_;have HB:=n2_;clear n0_ n1_ n2_ hb))
      have n0_:=aM_ (kD_ BK206.out)
      have n1_:=aM_ (kD_ BK207.out)
      have n2_:=aM_ (bD_ HB.out)
      clear BK206 BK207 HB
      have BK206:=n0_
      have BK207:=n1_
      have HB:=n2_
      clear n0_ n1_ n2_
      refine start_ (n:=6) (S:=fun w'=>w'.cell? ⟨gb206,0,none⟩ = some (.string a0_0) ∧ w'.cell? ⟨gb206,1,none⟩ = some (.slice A0_1 l0_1.length c0_1) ∧ w'.cell? ⟨gb206,2,none⟩ = some (.slice A0_2 l0_2.length c0_2) ∧ w'.cell? ⟨gb206,3,none⟩ = some (.slice A0_3 l0_3.length c0_3) ∧ w'.cell? ⟨gb207,0,none⟩ = some (.string a1_0) ∧ w'.cell? ⟨gb207,1,none⟩ = some (.slice A1_1 l1_1.length c1_1) ∧ w'.cell? ⟨gb207,2,none⟩ = some (.slice A1_2 l1_2.length c1_2) ∧ w'.cell? ⟨gb207,3,none⟩ = some (.slice A1_3 l1_3.length c1_3)) (ds:=[]) #[false,false,false,false,false,false] (by kernel_rfl) rfl rfl ⟨(kC_ BK206.out 0).trans rfl,(kC_ BK206.out 1).trans rfl,(kC_ BK206.out 2).trans rfl,(kC_ BK206.out 3).trans rfl,(kC_ BK207.out 0).trans rfl,(kC_ BK207.out 1).trans rfl,(kC_ BK207.out 2).trans rfl,(kC_ BK207.out 3).trans rfl⟩ (fun hHeld=>?_)
      generalize w38.drew = w39 at BK206 BK207 HB hHeld ⊢
      refine take_ (i:=0) (N:=some 20) (v:=?_) (a':=?_) #[true,false,false,false,false,false] rfl rfl (by kernel_rfl) (fun _ _ _ h=>h) (Or.inl ⟨by rfl,?_⟩) hHeld ?_ ?_
      rotate_left
      ·rintro w' ⟨s0,s1,s2,s3,s4,s5,s6,s7⟩
       go_simp
       with_reducible rfl
      rotate_left
      ·simp only [Act.put,sI_,sZ_,sS_,i64_w,i32_w]
       rfl
      refine take_ (i:=2) (N:=some 22) (v:=?_) (a':=?_) #[true,false,true,false,false,false] rfl rfl (by kernel_rfl) (fun _ _ _ h=>h) (Or.inl ⟨by rfl,?_⟩) hHeld ?_ ?_
      rotate_left
      ·rintro w' ⟨s0,s1,s2,s3,s4,s5,s6,s7⟩
       go_simp
       with_reducible rfl
      rotate_left
      ·simp only [Act.put,sI_,sZ_,sS_,i64_w,i32_w]
       rfl
      refine one_ (i:=1) (N:=some 21) #[true,true,true,false,false,false] rfl rfl (by kernel_rfl) (by decide) (fun K hK=>?_)
      refine goes_ Try.func63 (by kernel_rfl) rfl #[.agg #[.string a0_0,.slice A0_1 l0_1.length c0_1,.slice A0_2 l0_2.length c0_2,.slice A0_3 l0_3.length c0_3]] (by rfl) rfl rfl (by (try simp only [mA_,mC_,mN_]);first | done | rfl | (simp only [lD_,lT_];rfl)) ?_
      with_reducible refine (laws_toDef.calls k a0_0 _ _ l0_1 _ _ l0_2 _ _ l0_3 t210 t211 t214 t217 _ ?side1 ?side2 ?side3 ?side4 ?side5 ?side6 A19.out).mono ?_
      (case side1=>repeat (first | exact (Kd.C_below HR0_1.out HB.out) | (with_reducible refine cA_ ?_ _) | (with_reducible refine cN_ ?_ _) | (with_reducible refine cD_ ?_)))
      (case side2=>exact HC0_1.out)
      (case side3=>repeat (first | exact (Kd.C_below HR0_2.out HB.out) | (with_reducible refine cA_ ?_ _) | (with_reducible refine cN_ ?_ _) | (with_reducible refine cD_ ?_)))
      (case side4=>exact HC0_2.out)
      (case side5=>repeat (first | exact (Kd.C_below HR0_3.out HB.out) | (with_reducible refine cA_ ?_ _) | (with_reducible refine cN_ ?_ _) | (with_reducible refine cD_ ?_)))
      (case side6=>exact HC0_3.out)
      rintro e w40 ⟨v212,v215,v218,rfl,ho0,ho1,ho2,hb⟩
      refine ⟨_,rfl,?_⟩
      have n0_:=aM_ (Kd.R_lower ho0 (bS_ (by exact bZ_ HB)))
      have n1_:=aM_ (Kd.R_lower ho1 (bS_ (by exact bZ_ HB)))
      have n2_:=aM_ (Kd.S_lower ho2 (bS_ (by exact bZ_ HB)))
      have n3_:=aM_ (blk_below (g:=gb206) (o:=.cells #[.string a0_0,.slice A0_1 l0_1.length c0_1,.slice A0_2 l0_2.length c0_2,.slice A0_3 l0_3.length c0_3] 80 (0,0)) (by exact kZ_ BK206) hb)
      have n4_:=aM_ (blk_below (g:=gb207) (o:=.cells #[.string a1_0,.slice A1_1 l1_1.length c1_1,.slice A1_2 l1_2.length c1_2,.slice A1_3 l1_3.length c1_3] 80 (0,0)) (by exact kZ_ BK207) hb)
      have n5_:=aM_ (bT_ (by exact bZ_ HB) hb)
      clear BK206 BK207 HB
      have HO213:=n0_
      have HO216:=n1_
      have HO219:=n2_
      have BK206:=n3_
      have BK207:=n4_
      have HB:=n5_
      clear n0_ n1_ n2_ n3_ n4_ n5_ hb
      skip
      skip
      skip
      clear ho0 ho1 ho2
      refine hK.out _ _ ⟨(kC_ BK206.out 0).trans rfl,(kC_ BK206.out 1).trans rfl,(kC_ BK206.out 2).trans rfl,(kC_ BK206.out 3).trans rfl,(kC_ BK207.out 0).trans rfl,(kC_ BK207.out 1).trans rfl,(kC_ BK207.out 2).trans rfl,(kC_ BK207.out 3).trans rfl⟩ (fun hHeld=>?_)
      clear hK K
      refine norm_ (a':=?_) ?_ ?_
      rotate_left
      ·show Act.put _ (some 21) _ = _
       simp only [Act.put,sI_,sZ_,sS_,i64_w,i32_w]
       rfl
      refine one_ (i:=3) (N:=some 23) #[true,true,true,true,false,false] rfl rfl (by kernel_rfl) (by decide) (fun K hK=>?_)
      refine goes_ Try.func63 (by kernel_rfl) rfl #[.agg #[.string a1_0,.slice A1_1 l1_1.length c1_1,.slice A1_2 l1_2.length c1_2,.slice A1_3 l1_3.length c1_3]] (by rfl) rfl rfl (by (try simp only [mA_,mC_,mN_]);first | done | rfl | (simp only [lD_,lT_];rfl)) ?_
      with_reducible refine (laws_toDef.calls k a1_0 _ _ l1_1 _ _ l1_2 _ _ l1_3 t220 t221 t224 t227 _ ?side1 ?side2 ?side3 ?side4 ?side5 ?side6 A20.out).mono ?_
      (case side1=>repeat (first | exact (Kd.C_below HR1_1.out HB.out) | (with_reducible refine cA_ ?_ _) | (with_reducible refine cN_ ?_ _) | (with_reducible refine cD_ ?_)))
      (case side2=>exact HC1_1.out)
      (case side3=>repeat (first | exact (Kd.C_below HR1_2.out HB.out) | (with_reducible refine cA_ ?_ _) | (with_reducible refine cN_ ?_ _) | (with_reducible refine cD_ ?_)))
      (case side4=>exact HC1_2.out)
      (case side5=>repeat (first | exact (Kd.C_below HR1_3.out HB.out) | (with_reducible refine cA_ ?_ _) | (with_reducible refine cN_ ?_ _) | (with_reducible refine cD_ ?_)))
      (case side6=>exact HC1_3.out)
      rintro e w41 ⟨v222,v225,v228,rfl,ho0,ho1,ho2,hb⟩
      refine ⟨_,rfl,?_⟩
      have n0_:=aM_ (Kd.R_elder' (by exact rZ_ HO213) (Kd.R_base ho0) hb)
      have n1_:=aM_ (Kd.R_elder' (by exact rZ_ HO216) (Kd.R_base ho1) hb)
      have n2_:=aM_ (Kd.S_mono (Kd.S_told (Kd.S_told (Kd.S_old (by (with_reducible repeat (first | apply Kd.S_alloc | apply Kd.S_drewN | apply Kd.S_drew));exact HO219.out) hb) (Kd.R_base ho1)) (Kd.S_base ho2)) (fun _ h_=>h_.1))
      have n3_:=aM_ (Kd.R_lower (Kd.R_new' ho0 (Kd.R_lt (by exact rZ_ HO213))) (bS_ (by exact bZ_ HB)))
      have n4_:=aM_ (Kd.R_lower (Kd.R_new' ho1 (Kd.R_lt (by exact rZ_ HO216))) (bS_ (by exact bZ_ HB)))
      have n5_:=aM_ (Kd.S_lower (Kd.S_new' (Kd.S_new' ho2 (Kd.R_lt (by exact rZ_ HO216))) (Kd.S_lt (by (with_reducible repeat (first | apply Kd.S_alloc | apply Kd.S_drewN | apply Kd.S_drew));exact HO219.out))) (bS_ (by exact bZ_ HB)))
      have n6_:=aM_ (blk_below (g:=gb206) (o:=.cells #[.string a0_0,.slice A0_1 l0_1.length c0_1,.slice A0_2 l0_2.length c0_2,.slice A0_3 l0_3.length c0_3] 80 (0,0)) (by exact kZ_ BK206) hb)
      have n7_:=aM_ (blk_below (g:=gb207) (o:=.cells #[.string a1_0,.slice A1_1 l1_1.length c1_1,.slice A1_2 l1_2.length c1_2,.slice A1_3 l1_3.length c1_3] 80 (0,0)) (by exact kZ_ BK207) hb)
      have n8_:=aM_ (bT_ (by exact bZ_ HB) hb)
      clear HO213 HO216 HO219 BK206 BK207 HB
      have HO213:=n0_
      have HO216:=n1_
      have HO219:=n2_
      have HO223:=n3_
      have HO226:=n4_
      have HO229:=n5_
      have BK206:=n6_
      have BK207:=n7_
      have HB:=n8_
      clear n0_ n1_ n2_ n3_ n4_ n5_ n6_ n7_ n8_ hb
      skip
      skip
      skip
      clear ho0 ho1 ho2
      obtain ⟨Ao42,co42,eo42⟩:=Kd.R_slice HO213.out
      (first | subst eo42 | (injection eo42 with f1_ f2_ f3_;have f4_:=f1_.symm;have f5_:=f3_.symm;clear f1_ f2_ f3_;subst f4_;subst f5_))
      obtain ⟨Ao43,co43,eo43⟩:=Kd.R_slice HO216.out
      (first | subst eo43 | (injection eo43 with f1_ f2_ f3_;have f4_:=f1_.symm;have f5_:=f3_.symm;clear f1_ f2_ f3_;subst f4_;subst f5_))
      obtain ⟨Ao44,co44,eo44⟩:=Kd.S_slice HO219.out
      (first | subst eo44 | (injection eo44 with f1_ f2_ f3_;have f4_:=f1_.symm;have f5_:=f3_.symm;clear f1_ f2_ f3_;subst f4_;subst f5_))
      obtain ⟨Ao45,co45,eo45⟩:=Kd.R_slice HO223.out
      (first | subst eo45 | (injection eo45 with f1_ f2_ f3_;have f4_:=f1_.symm;have f5_:=f3_.symm;clear f1_ f2_ f3_;subst f4_;subst f5_))
      obtain ⟨Ao46,co46,eo46⟩:=Kd.R_slice HO226.out
      (first | subst eo46 | (injection eo46 with f1_ f2_ f3_;have f4_:=f1_.symm;have f5_:=f3_.symm;clear f1_ f2_ f3_;subst f4_;subst f5_))
      obtain ⟨Ao47,co47,eo47⟩:=Kd.S_slice HO229.out
      (first | subst eo47 | (injection eo47 with f1_ f2_ f3_;have f4_:=f1_.symm;have f5_:=f3_.symm;clear f1_ f2_ f3_;subst f4_;subst f5_))
      refine hK.out _ _ ⟨(kC_ BK206.out 0).trans rfl,(kC_ BK206.out 1).trans rfl,(kC_ BK206.out 2).trans rfl,(kC_ BK206.out 3).trans rfl,(kC_ BK207.out 0).trans rfl,(kC_ BK207.out 1).trans rfl,(kC_ BK207.out 2).trans rfl,(kC_ BK207.out 3).trans rfl⟩ (fun hHeld=>?_)
      clear hK K
      refine norm_ (a':=?_) ?_ ?_
      rotate_left
      ·show Act.put _ (some 23) _ = _
       simp only [Act.put,sI_,sZ_,sS_,i64_w,i32_w]
       rfl
      refine one_ (i:=4) (N:=some 24) #[true,true,true,true,true,false] rfl rfl (by kernel_rfl) (by decide) (fun K hK=>?_)
      refine goes_ Try.func62 (by kernel_rfl) rfl #[.agg #[.string t210,.slice Ao42 t211.length co42,.slice Ao43 t214.length co43,.slice Ao44 t217.length co44],.agg #[.string t220,.slice Ao45 t221.length co45,.slice Ao46 t224.length co46,.slice Ao47 t227.length co47]] (by rfl) rfl rfl (by (try simp only [mA_,mC_,mN_]);first | done | rfl | (simp only [lD_,lT_];rfl)) ?_
      with_reducible refine (spec_SameDef.calls k t210 _ _ t211 _ _ t214 _ _ t217 t220 _ _ t221 _ _ t224 _ _ t227 t230 _ ?side1 ?side2 ?side3 ?side4 ?side5 ?side6 ?side7 ?side8 ?side9 ?side10 ?side11 ?side12 A21.out).mono ?_
      (case side1=>repeat (first | exact (Kd.R_reads' HO213.out).2.2 | (with_reducible refine cA_ ?_ _) | (with_reducible refine cN_ ?_ _) | (with_reducible refine cD_ ?_)))
      (case side2=>exact (Kd.R_reads' HO213.out).2.1)
      (case side3=>repeat (first | exact (Kd.R_reads' HO216.out).2.2 | (with_reducible refine cA_ ?_ _) | (with_reducible refine cN_ ?_ _) | (with_reducible refine cD_ ?_)))
      (case side4=>exact (Kd.R_reads' HO216.out).2.1)
      (case side5=>repeat (first | exact (Kd.S_reads' HO219.out).2.2 | (with_reducible refine cA_ ?_ _) | (with_reducible refine cN_ ?_ _) | (with_reducible refine cD_ ?_)))
      (case side6=>exact (Kd.S_reads' HO219.out).2.1)
      (case side7=>repeat (first | exact (Kd.R_reads' HO223.out).2.2 | (with_reducible refine cA_ ?_ _) | (with_reducible refine cN_ ?_ _) | (with_reducible refine cD_ ?_)))
      (case side8=>exact (Kd.R_reads' HO223.out).2.1)
      (case side9=>repeat (first | exact (Kd.R_reads' HO226.out).2.2 | (with_reducible refine cA_ ?_ _) | (with_reducible refine cN_ ?_ _) | (with_reducible refine cD_ ?_)))
      (case side10=>exact (Kd.R_reads' HO226.out).2.1)
      (case side11=>repeat (first | exact (Kd.S_reads' HO229.out).2.2 | (with_reducible refine cA_ ?_ _) | (with_reducible refine cN_ ?_ _) | (with_reducible refine cD_ ?_)))
      (case side12=>exact (Kd.S_reads' HO229.out).2.1)
      rintro e w48 ⟨rfl,hb⟩
      refine ⟨_,rfl,?_⟩
      have n0_:=aM_ (Kd.R_below (by exact rZ_ HO213) hb)
      have n1_:=aM_ (Kd.R_below (by exact rZ_ HO216) hb)
      have n2_:=aM_ (Kd.S_below (by (with_reducible repeat (first | apply Kd.S_alloc | apply Kd.S_drewN | apply Kd.S_drew));exact HO219.out) hb)
      have n3_:=aM_ (Kd.R_below (by exact rZ_ HO223) hb)
      have n4_:=aM_ (Kd.R_below (by exact rZ_ HO226) hb)
      have n5_:=aM_ (Kd.S_below (by (with_reducible repeat (first | apply Kd.S_alloc | apply Kd.S_drewN | apply Kd.S_drew));exact HO229.out) hb)
      have n6_:=aM_ (blk_below (g:=gb206) (o:=.cells #[.string a0_0,.slice A0_1 l0_1.length c0_1,.slice A0_2 l0_2.length c0_2,.slice A0_3 l0_3.length c0_3] 80 (0,0)) (by exact kZ_ BK206) hb)
      have n7_:=aM_ (blk_below (g:=gb207) (o:=.cells #[.string a1_0,.slice A1_1 l1_1.length c1_1,.slice A1_2 l1_2.length c1_2,.slice A1_3 l1_3.length c1_3] 80 (0,0)) (by exact kZ_ BK207) hb)
      have n8_:=aM_ (bT_ (by exact bZ_ HB) hb)
      clear HO213 HO216 HO219 HO223 HO226 HO229 BK206 BK207 HB
      have HO213:=n0_
      have HO216:=n1_
      have HO219:=n2_
      have HO223:=n3_
      have HO226:=n4_
      have HO229:=n5_
      have BK206:=n6_
      have BK207:=n7_
      have HB:=n8_
      clear n0_ n1_ n2_ n3_ n4_ n5_ n6_ n7_ n8_ hb
      skip
      skip
      skip
      refine hK.out _ _ ⟨(kC_ BK206.out 0).trans rfl,(kC_ BK206.out 1).trans rfl,(kC_ BK206.out 2).trans rfl,(kC_ BK206.out 3).trans rfl,(kC_ BK207.out 0).trans rfl,(kC_ BK207.out 1).trans rfl,(kC_ BK207.out 2).trans rfl,(kC_ BK207.out 3).trans rfl⟩ (fun hHeld=>?_)
      clear hK K
      refine norm_ (a':=?_) ?_ ?_
      rotate_left
      ·show Act.put _ (some 24) _ = _
       simp only [Act.put,sI_,sZ_,sS_,i64_w,i32_w]
       rfl
      refine pure_ (i:=5) (N:=some 6) (v:=?_) (a':=?_) #[true,true,true,true,true,true] rfl rfl (by kernel_rfl) (fun _ _ _ h=>h) (Or.inl ⟨by rfl,?_⟩) ?_ ?_
      rotate_left
      ·intro w'
       go_simp
       with_reducible rfl
      rotate_left
      ·simp only [Act.put,sI_,sZ_,sS_,i64_w,i32_w]
       rfl
      refine done_ (by kernel_rfl) ?_
      have hcz49_0 : w48.cell? ⟨gb206,0,none⟩ = some (.string a0_0):=(kC_ BK206.out 0).trans rfl
      have hcz49_1 : w48.cell? ⟨gb206,1,none⟩ = some (.slice A0_1 l0_1.length c0_1):=(kC_ BK206.out 1).trans rfl
      have hcz49_2 : w48.cell? ⟨gb206,2,none⟩ = some (.slice A0_2 l0_2.length c0_2):=(kC_ BK206.out 2).trans rfl
      have hcz49_3 : w48.cell? ⟨gb206,3,none⟩ = some (.slice A0_3 l0_3.length c0_3):=(kC_ BK206.out 3).trans rfl
      have hfz49_0:=kF_ BK206.out 0
      have hfz49_1:=kF_ BK206.out 1
      have hfz49_2:=kF_ BK206.out 2
      have hfz49_3:=kF_ BK206.out 3
      try go_wp2_with (first | ((with_reducible refine gate_callee (f:=63) rfl ?_);refine goesL_ (some 26) rfl rfl Try.func63 (by kernel_rfl) rfl #[.agg #[.string a0_0,.slice A0_1 l0_1.length c0_1,.slice A0_2 l0_2.length c0_2,.slice A0_3 l0_3.length c0_3]] rfl (by (try simp only [mA_,mC_,mN_]);first | done | rfl | (simp only [lD_,lT_];rfl)) ?_;(with_reducible refine (laws_toDef.calls k a0_0 _ _ l0_1 _ _ l0_2 _ _ l0_3 t231 t232 t235 t238 _ ?side1 ?side2 ?side3 ?side4 ?side5 ?side6 A22.out).mono ?_);(case side1=>repeat (first | exact (Kd.C_below HR0_1.out HB.out) | (with_reducible refine cA_ ?_ _) | (with_reducible refine cN_ ?_ _) | (with_reducible refine cD_ ?_)));(case side2=>exact HC0_1.out);(case side3=>repeat (first | exact (Kd.C_below HR0_2.out HB.out) | (with_reducible refine cA_ ?_ _) | (with_reducible refine cN_ ?_ _) | (with_reducible refine cD_ ?_)));(case side4=>exact HC0_2.out);(case side5=>repeat (first | exact (Kd.C_below HR0_3.out HB.out) | (with_reducible refine cA_ ?_ _) | (with_reducible refine cN_ ?_ _) | (with_reducible refine cD_ ?_)));(case side6=>exact HC0_3.out);rintro e w50 ⟨v233,v236,v239,rfl,ho0,ho1,ho2,hb⟩;refine ⟨_,rfl,?_⟩;have n0_:=aM_ (Kd.R_elder' (by exact rZ_ HO213) (Kd.R_base ho0) hb);have n1_:=aM_ (Kd.R_elder' (by exact rZ_ HO216) (Kd.R_base ho1) hb);have n2_:=aM_ (Kd.S_mono (Kd.S_told (Kd.S_told (Kd.S_old (by (with_reducible repeat (first | apply Kd.S_alloc | apply Kd.S_drewN | apply Kd.S_drew));exact HO219.out) hb) (Kd.R_base ho1)) (Kd.S_base ho2)) (fun _ h_=>h_.1));have n3_:=aM_ (Kd.R_elder' (by exact rZ_ HO223) (Kd.R_base ho0) hb);have n4_:=aM_ (Kd.R_elder' (by exact rZ_ HO226) (Kd.R_base ho1) hb);have n5_:=aM_ (Kd.S_mono (Kd.S_told (Kd.S_told (Kd.S_old (by (with_reducible repeat (first | apply Kd.S_alloc | apply Kd.S_drewN | apply Kd.S_drew));exact HO229.out) hb) (Kd.R_base ho1)) (Kd.S_base ho2)) (fun _ h_=>h_.1));have n6_:=aM_ (Kd.R_lower (Kd.R_new' (Kd.R_new' ho0 (Kd.R_lt (by exact rZ_ HO213))) (Kd.R_lt (by exact rZ_ HO223))) (bS_ (by exact bZ_ HB)));have n7_:=aM_ (Kd.R_lower (Kd.R_new' (Kd.R_new' ho1 (Kd.R_lt (by exact rZ_ HO216))) (Kd.R_lt (by exact rZ_ HO226))) (bS_ (by exact bZ_ HB)));have n8_:=aM_ (Kd.S_lower (Kd.S_new' (Kd.S_new' (Kd.S_new' (Kd.S_new' ho2 (Kd.R_lt (by exact rZ_ HO216))) (Kd.S_lt (by (with_reducible repeat (first | apply Kd.S_alloc | apply Kd.S_drewN | apply Kd.S_drew));exact HO219.out))) (Kd.R_lt (by exact rZ_ HO226))) (Kd.S_lt (by (with_reducible repeat (first | apply Kd.S_alloc | apply Kd.S_drewN | apply Kd.S_drew));exact HO229.out))) (bS_ (by exact bZ_ HB)));have n9_:=aM_ (blk_below (g:=gb206) (o:=.cells #[.string a0_0,.slice A0_1 l0_1.length c0_1,.slice A0_2 l0_2.length c0_2,.slice A0_3 l0_3.length c0_3] 80 (0,0)) (by exact kZ_ BK206) hb);have n10_:=aM_ (blk_below (g:=gb207) (o:=.cells #[.string a1_0,.slice A1_1 l1_1.length c1_1,.slice A1_2 l1_2.length c1_2,.slice A1_3 l1_3.length c1_3] 80 (0,0)) (by exact kZ_ BK207) hb);have n11_:=aM_ (bT_ (by exact bZ_ HB) hb);clear HO213 HO216 HO219 HO223 HO226 HO229 BK206 BK207 HB;have HO213:=n0_;have HO216:=n1_;have HO219:=n2_;have HO223:=n3_;have HO226:=n4_;have HO229:=n5_;have HO234:=n6_;have HO237:=n7_;have HO240:=n8_;have BK206:=n9_;have BK207:=n10_;have HB:=n11_;clear n0_ n1_ n2_ n3_ n4_ n5_ n6_ n7_ n8_ n9_ n10_ n11_ hb ho0 ho1 ho2) | ((with_reducible refine gate_dst (N:=7) rfl ?_);refine box_event ?hg (N:=7) ?hd (cs:=#[.string (⟨#[]⟩ : ByteArray),.slice none 0 0,.slice none 0 0,.slice none 0 0]) (t:=87) ?hr ?_;(case hd=>rfl);(case hg=>rfl);(case hr=>first | (go_simp;done) | (go_simp;rfl));intro gb241 hg w51 hbox hb;have n0_:=aM_ (Kd.R_below (by exact rZ_ HO213) hb);have n1_:=aM_ (Kd.R_below (by exact rZ_ HO216) hb);have n2_:=aM_ (Kd.S_below (by (with_reducible repeat (first | apply Kd.S_alloc | apply Kd.S_drewN | apply Kd.S_drew));exact HO219.out) hb);have n3_:=aM_ (Kd.R_below (by exact rZ_ HO223) hb);have n4_:=aM_ (Kd.R_below (by exact rZ_ HO226) hb);have n5_:=aM_ (Kd.S_below (by (with_reducible repeat (first | apply Kd.S_alloc | apply Kd.S_drewN | apply Kd.S_drew));exact HO229.out) hb);have n6_:=aM_ (Kd.R_below (by exact rZ_ HO234) hb);have n7_:=aM_ (Kd.R_below (by exact rZ_ HO237) hb);have n8_:=aM_ (Kd.S_below (by (with_reducible repeat (first | apply Kd.S_alloc | apply Kd.S_drewN | apply Kd.S_drew));exact HO240.out) hb);have n9_:=aM_ (blk_below (g:=gb206) (o:=.cells #[.string a0_0,.slice A0_1 l0_1.length c0_1,.slice A0_2 l0_2.length c0_2,.slice A0_3 l0_3.length c0_3] 80 (0,0)) (by exact kZ_ BK206) hb);have n10_:=aM_ (blk_below (g:=gb207) (o:=.cells #[.string a1_0,.slice A1_1 l1_1.length c1_1,.slice A1_2 l1_2.length c1_2,.slice A1_3 l1_3.length c1_3] 80 (0,0)) (by exact kZ_ BK207) hb);have n11_:=aM_ (bT_ (by exact bZ_ HB) hb);have n12_:=aM_ (hbox);have n13_:=aM_ ((by rw [hg];exact (bS_ (by exact bZ_ HB)) : w.heap.size ≤ gb241));have n14_:=aM_ ((by rw [hg];exact (bS_ (by exact bZ_ HB)) : w.heap.size ≤ gb241));have n15_:=aM_ ((by rw [hg];exact nN_ (blk_lt (g:=gb206) (o:=.cells #[.string a0_0,.slice A0_1 l0_1.length c0_1,.slice A0_2 l0_2.length c0_2,.slice A0_3 l0_3.length c0_3] 80 (0,0)) (by exact kZ_ BK206)) : gb206 ≠ gb241));have n16_:=aM_ ((by rw [hg];exact Nat.ne_of_gt (blk_lt (g:=gb206) (o:=.cells #[.string a0_0,.slice A0_1 l0_1.length c0_1,.slice A0_2 l0_2.length c0_2,.slice A0_3 l0_3.length c0_3] 80 (0,0)) (by exact kZ_ BK206)) : gb241 ≠ gb206));have n17_:=aM_ ((by rw [hg];exact nN_ (blk_lt (g:=gb207) (o:=.cells #[.string a1_0,.slice A1_1 l1_1.length c1_1,.slice A1_2 l1_2.length c1_2,.slice A1_3 l1_3.length c1_3] 80 (0,0)) (by exact kZ_ BK207)) : gb207 ≠ gb241));have n18_:=aM_ ((by rw [hg];exact Nat.ne_of_gt (blk_lt (g:=gb207) (o:=.cells #[.string a1_0,.slice A1_1 l1_1.length c1_1,.slice A1_2 l1_2.length c1_2,.slice A1_3 l1_3.length c1_3] 80 (0,0)) (by exact kZ_ BK207)) : gb241 ≠ gb207));clear HO213 HO216 HO219 HO223 HO226 HO229 HO234 HO237 HO240 BK206 BK207 HB;have HO213:=n0_;have HO216:=n1_;have HO219:=n2_;have HO223:=n3_;have HO226:=n4_;have HO229:=n5_;have HO234:=n6_;have HO237:=n7_;have HO240:=n8_;have BK206:=n9_;have BK207:=n10_;have HB:=n11_;have BK241:=n12_;have GW241:=n13_;have GE241:=n14_;have NB206_241:=n15_;have NB241_206:=n16_;have NB207_241:=n17_;have NB241_207:=n18_;clear n0_ n1_ n2_ n3_ n4_ n5_ n6_ n7_ n8_ n9_ n10_ n11_ n12_ n13_ n14_ n15_ n16_ n17_ n18_ hb hbox hg;have hnb52:=NB241_206.out;have hnc52:=NB206_241.out;have hnb53:=NB241_207.out;have hnc53:=NB207_241.out;have hcz54_0 : w51.cell? ⟨gb241,0,none⟩ = some (.string (⟨#[]⟩ : ByteArray)):=(kC_ BK241.out 0).trans rfl;have hcz54_1 : w51.cell? ⟨gb241,1,none⟩ = some (.slice none 0 0):=(kC_ BK241.out 1).trans rfl;have hcz54_2 : w51.cell? ⟨gb241,2,none⟩ = some (.slice none 0 0):=(kC_ BK241.out 2).trans rfl;have hcz54_3 : w51.cell? ⟨gb241,3,none⟩ = some (.slice none 0 0):=(kC_ BK241.out 3).trans rfl;have hfz54_0:=kF_ BK241.out 0;have hfz54_1:=kF_ BK241.out 1;have hfz54_2:=kF_ BK241.out 2;have hfz54_3:=kF_ BK241.out 3;obtain ⟨Ao55,co55,eo55⟩:=Kd.R_slice HO234.out;subst eo55;obtain ⟨Ao56,co56,eo56⟩:=Kd.R_slice HO237.out;subst eo56;obtain ⟨Ao57,co57,eo57⟩:=Kd.S_slice HO240.out;subst eo57;have hcz58_0 : w51.cell? ⟨gb207,0,none⟩ = some (.string a1_0):=(kC_ BK207.out 0).trans rfl;have hcz58_1 : w51.cell? ⟨gb207,1,none⟩ = some (.slice A1_1 l1_1.length c1_1):=(kC_ BK207.out 1).trans rfl;have hcz58_2 : w51.cell? ⟨gb207,2,none⟩ = some (.slice A1_2 l1_2.length c1_2):=(kC_ BK207.out 2).trans rfl;have hcz58_3 : w51.cell? ⟨gb207,3,none⟩ = some (.slice A1_3 l1_3.length c1_3):=(kC_ BK207.out 3).trans rfl;have hfz58_0:=kF_ BK207.out 0;have hfz58_1:=kF_ BK207.out 1;have hfz58_2:=kF_ BK207.out 2;have hfz58_3:=kF_ BK207.out 3) | ((with_reducible refine gate_callee (f:=63) rfl ?_);refine goesL_ (some 28) rfl rfl Try.func63 (by kernel_rfl) rfl #[.agg #[.string a1_0,.slice A1_1 l1_1.length c1_1,.slice A1_2 l1_2.length c1_2,.slice A1_3 l1_3.length c1_3]] rfl (by (try simp only [mA_,mC_,mN_]);first | done | rfl | (simp only [lD_,lT_];rfl)) ?_;(with_reducible refine (laws_toDef.calls k a1_0 _ _ l1_1 _ _ l1_2 _ _ l1_3 t242 t243 t246 t249 _ ?side1 ?side2 ?side3 ?side4 ?side5 ?side6 A23.out).mono ?_);(case side1=>exact Kd.C_below HR1_1.out (by exact bZ_ HB));(case side2=>exact HC1_1.out);(case side3=>exact Kd.C_below HR1_2.out (by exact bZ_ HB));(case side4=>exact HC1_2.out);(case side5=>exact Kd.C_below HR1_3.out (by exact bZ_ HB));(case side6=>exact HC1_3.out);rintro e w59 ⟨v244,v247,v250,rfl,ho0,ho1,ho2,hb⟩;refine ⟨_,rfl,?_⟩;have n0_:=aM_ (Kd.R_elder' (by (with_reducible repeat (first | apply rA_ | apply rN_ | apply rD_));exact (Kd.R_mono (Kd.R_far (p:=⟨gb241,3,none⟩) (Kd.R_far (p:=⟨gb241,2,none⟩) (Kd.R_far (p:=⟨gb241,1,none⟩) (Kd.R_far (p:=⟨gb241,0,none⟩) (Kd.R_types HO213.out BK241.out (by decide)) (fun _ hk=>hk.2) (.string t231)) (fun _ hk=>hk.2) (.slice Ao55 t232.length co55)) (fun _ hk=>hk.2) (.slice Ao56 t235.length co56)) (fun _ hk=>hk.2) (.slice Ao57 t238.length co57)) (fun _ h_=>h_.1))) (Kd.R_base ho0) hb);have n1_:=aM_ (Kd.R_elder' (by (with_reducible repeat (first | apply rA_ | apply rN_ | apply rD_));exact (Kd.R_mono (Kd.R_far (p:=⟨gb241,3,none⟩) (Kd.R_far (p:=⟨gb241,2,none⟩) (Kd.R_far (p:=⟨gb241,1,none⟩) (Kd.R_far (p:=⟨gb241,0,none⟩) (Kd.R_types HO216.out BK241.out (by decide)) (fun _ hk=>hk.2) (.string t231)) (fun _ hk=>hk.2) (.slice Ao55 t232.length co55)) (fun _ hk=>hk.2) (.slice Ao56 t235.length co56)) (fun _ hk=>hk.2) (.slice Ao57 t238.length co57)) (fun _ h_=>h_.1))) (Kd.R_base ho1) hb);have n2_:=aM_ (Kd.S_mono (Kd.S_told (Kd.S_told (Kd.S_old (by (with_reducible repeat (first | apply Kd.S_alloc | apply Kd.S_drewN | apply Kd.S_drew));exact (Kd.S_mono (Kd.S_far (p:=⟨gb241,3,none⟩) (Kd.S_far (p:=⟨gb241,2,none⟩) (Kd.S_far (p:=⟨gb241,1,none⟩) (Kd.S_far (p:=⟨gb241,0,none⟩) (Kd.S_types HO219.out BK241.out (by decide)) (fun _ hk=>hk.2) (.string t231)) (fun _ hk=>hk.2) (.slice Ao55 t232.length co55)) (fun _ hk=>hk.2) (.slice Ao56 t235.length co56)) (fun _ hk=>hk.2) (.slice Ao57 t238.length co57)) (fun _ h_=>h_.1))) hb) (Kd.R_base ho1)) (Kd.S_base ho2)) (fun _ h_=>h_.1));have n3_:=aM_ (Kd.R_elder' (by (with_reducible repeat (first | apply rA_ | apply rN_ | apply rD_));exact (Kd.R_mono (Kd.R_far (p:=⟨gb241,3,none⟩) (Kd.R_far (p:=⟨gb241,2,none⟩) (Kd.R_far (p:=⟨gb241,1,none⟩) (Kd.R_far (p:=⟨gb241,0,none⟩) (Kd.R_types HO223.out BK241.out (by decide)) (fun _ hk=>hk.2) (.string t231)) (fun _ hk=>hk.2) (.slice Ao55 t232.length co55)) (fun _ hk=>hk.2) (.slice Ao56 t235.length co56)) (fun _ hk=>hk.2) (.slice Ao57 t238.length co57)) (fun _ h_=>h_.1))) (Kd.R_base ho0) hb);have n4_:=aM_ (Kd.R_elder' (by (with_reducible repeat (first | apply rA_ | apply rN_ | apply rD_));exact (Kd.R_mono (Kd.R_far (p:=⟨gb241,3,none⟩) (Kd.R_far (p:=⟨gb241,2,none⟩) (Kd.R_far (p:=⟨gb241,1,none⟩) (Kd.R_far (p:=⟨gb241,0,none⟩) (Kd.R_types HO226.out BK241.out (by decide)) (fun _ hk=>hk.2) (.string t231)) (fun _ hk=>hk.2) (.slice Ao55 t232.length co55)) (fun _ hk=>hk.2) (.slice Ao56 t235.length co56)) (fun _ hk=>hk.2) (.slice Ao57 t238.length co57)) (fun _ h_=>h_.1))) (Kd.R_base ho1) hb);have n5_:=aM_ (Kd.S_mono (Kd.S_told (Kd.S_told (Kd.S_old (by (with_reducible repeat (first | apply Kd.S_alloc | apply Kd.S_drewN | apply Kd.S_drew));exact (Kd.S_mono (Kd.S_far (p:=⟨gb241,3,none⟩) (Kd.S_far (p:=⟨gb241,2,none⟩) (Kd.S_far (p:=⟨gb241,1,none⟩) (Kd.S_far (p:=⟨gb241,0,none⟩) (Kd.S_types HO229.out BK241.out (by decide)) (fun _ hk=>hk.2) (.string t231)) (fun _ hk=>hk.2) (.slice Ao55 t232.length co55)) (fun _ hk=>hk.2) (.slice Ao56 t235.length co56)) (fun _ hk=>hk.2) (.slice Ao57 t238.length co57)) (fun _ h_=>h_.1))) hb) (Kd.R_base ho1)) (Kd.S_base ho2)) (fun _ h_=>h_.1));have n6_:=aM_ (Kd.R_elder' (by (with_reducible repeat (first | apply rA_ | apply rN_ | apply rD_));exact (Kd.R_mono (Kd.R_far (p:=⟨gb241,3,none⟩) (Kd.R_far (p:=⟨gb241,2,none⟩) (Kd.R_far (p:=⟨gb241,1,none⟩) (Kd.R_far (p:=⟨gb241,0,none⟩) (Kd.R_types HO234.out BK241.out (by decide)) (fun _ hk=>hk.2) (.string t231)) (fun _ hk=>hk.2) (.slice Ao55 t232.length co55)) (fun _ hk=>hk.2) (.slice Ao56 t235.length co56)) (fun _ hk=>hk.2) (.slice Ao57 t238.length co57)) (fun _ h_=>h_.1))) (Kd.R_base ho0) hb);have n7_:=aM_ (Kd.R_elder' (by (with_reducible repeat (first | apply rA_ | apply rN_ | apply rD_));exact (Kd.R_mono (Kd.R_far (p:=⟨gb241,3,none⟩) (Kd.R_far (p:=⟨gb241,2,none⟩) (Kd.R_far (p:=⟨gb241,1,none⟩) (Kd.R_far (p:=⟨gb241,0,none⟩) (Kd.R_types HO237.out BK241.out (by decide)) (fun _ hk=>hk.2) (.string t231)) (fun _ hk=>hk.2) (.slice Ao55 t232.length co55)) (fun _ hk=>hk.2) (.slice Ao56 t235.length co56)) (fun _ hk=>hk.2) (.slice Ao57 t238.length co57)) (fun _ h_=>h_.1))) (Kd.R_base ho1) hb);have n8_:=aM_ (Kd.S_mono (Kd.S_told (Kd.S_told (Kd.S_old (by (with_reducible repeat (first | apply Kd.S_alloc | apply Kd.S_drewN | apply Kd.S_drew));exact (Kd.S_mono (Kd.S_far (p:=⟨gb241,3,none⟩) (Kd.S_far (p:=⟨gb241,2,none⟩) (Kd.S_far (p:=⟨gb241,1,none⟩) (Kd.S_far (p:=⟨gb241,0,none⟩) (Kd.S_types HO240.out BK241.out (by decide)) (fun _ hk=>hk.2) (.string t231)) (fun _ hk=>hk.2) (.slice Ao55 t232.length co55)) (fun _ hk=>hk.2) (.slice Ao56 t235.length co56)) (fun _ hk=>hk.2) (.slice Ao57 t238.length co57)) (fun _ h_=>h_.1))) hb) (Kd.R_base ho1)) (Kd.S_base ho2)) (fun _ h_=>h_.1));have n9_:=aM_ (Kd.R_lower (Kd.R_new' (Kd.R_new' (Kd.R_new' ho0 (Kd.R_lt (by (with_reducible repeat (first | apply rA_ | apply rN_ | apply rD_));exact (Kd.R_mono (Kd.R_far (p:=⟨gb241,3,none⟩) (Kd.R_far (p:=⟨gb241,2,none⟩) (Kd.R_far (p:=⟨gb241,1,none⟩) (Kd.R_far (p:=⟨gb241,0,none⟩) (Kd.R_types HO213.out BK241.out (by decide)) (fun _ hk=>hk.2) (.string t231)) (fun _ hk=>hk.2) (.slice Ao55 t232.length co55)) (fun _ hk=>hk.2) (.slice Ao56 t235.length co56)) (fun _ hk=>hk.2) (.slice Ao57 t238.length co57)) (fun _ h_=>h_.1))))) (Kd.R_lt (by (with_reducible repeat (first | apply rA_ | apply rN_ | apply rD_));exact (Kd.R_mono (Kd.R_far (p:=⟨gb241,3,none⟩) (Kd.R_far (p:=⟨gb241,2,none⟩) (Kd.R_far (p:=⟨gb241,1,none⟩) (Kd.R_far (p:=⟨gb241,0,none⟩) (Kd.R_types HO223.out BK241.out (by decide)) (fun _ hk=>hk.2) (.string t231)) (fun _ hk=>hk.2) (.slice Ao55 t232.length co55)) (fun _ hk=>hk.2) (.slice Ao56 t235.length co56)) (fun _ hk=>hk.2) (.slice Ao57 t238.length co57)) (fun _ h_=>h_.1))))) (Kd.R_lt (by (with_reducible repeat (first | apply rA_ | apply rN_ | apply rD_));exact (Kd.R_mono (Kd.R_far (p:=⟨gb241,3,none⟩) (Kd.R_far (p:=⟨gb241,2,none⟩) (Kd.R_far (p:=⟨gb241,1,none⟩) (Kd.R_far (p:=⟨gb241,0,none⟩) (Kd.R_types HO234.out BK241.out (by decide)) (fun _ hk=>hk.2) (.string t231)) (fun _ hk=>hk.2) (.slice Ao55 t232.length co55)) (fun _ hk=>hk.2) (.slice Ao56 t235.length co56)) (fun _ hk=>hk.2) (.slice Ao57 t238.length co57)) (fun _ h_=>h_.1))))) (bS_ (by exact bZ_ HB)));have n10_:=aM_ (Kd.R_lower (Kd.R_new' (Kd.R_new' (Kd.R_new' ho1 (Kd.R_lt (by (with_reducible repeat (first | apply rA_ | apply rN_ | apply rD_));exact (Kd.R_mono (Kd.R_far (p:=⟨gb241,3,none⟩) (Kd.R_far (p:=⟨gb241,2,none⟩) (Kd.R_far (p:=⟨gb241,1,none⟩) (Kd.R_far (p:=⟨gb241,0,none⟩) (Kd.R_types HO216.out BK241.out (by decide)) (fun _ hk=>hk.2) (.string t231)) (fun _ hk=>hk.2) (.slice Ao55 t232.length co55)) (fun _ hk=>hk.2) (.slice Ao56 t235.length co56)) (fun _ hk=>hk.2) (.slice Ao57 t238.length co57)) (fun _ h_=>h_.1))))) (Kd.R_lt (by (with_reducible repeat (first | apply rA_ | apply rN_ | apply rD_));exact (Kd.R_mono (Kd.R_far (p:=⟨gb241,3,none⟩) (Kd.R_far (p:=⟨gb241,2,none⟩) (Kd.R_far (p:=⟨gb241,1,none⟩) (Kd.R_far (p:=⟨gb241,0,none⟩) (Kd.R_types HO226.out BK241.out (by decide)) (fun _ hk=>hk.2) (.string t231)) (fun _ hk=>hk.2) (.slice Ao55 t232.length co55)) (fun _ hk=>hk.2) (.slice Ao56 t235.length co56)) (fun _ hk=>hk.2) (.slice Ao57 t238.length co57)) (fun _ h_=>h_.1))))) (Kd.R_lt (by (with_reducible repeat (first | apply rA_ | apply rN_ | apply rD_));exact (Kd.R_mono (Kd.R_far (p:=⟨gb241,3,none⟩) (Kd.R_far (p:=⟨gb241,2,none⟩) (Kd.R_far (p:=⟨gb241,1,none⟩) (Kd.R_far (p:=⟨gb241,0,none⟩) (Kd.R_types HO237.out BK241.out (by decide)) (fun _ hk=>hk.2) (.string t231)) (fun _ hk=>hk.2) (.slice Ao55 t232.length co55)) (fun _ hk=>hk.2) (.slice Ao56 t235.length co56)) (fun _ hk=>hk.2) (.slice Ao57 t238.length co57)) (fun _ h_=>h_.1))))) (bS_ (by exact bZ_ HB)));have n11_:=aM_ (Kd.S_lower (Kd.S_new' (Kd.S_new' (Kd.S_new' (Kd.S_new' (Kd.S_new' (Kd.S_new' ho2 (Kd.R_lt (by (with_reducible repeat (first | apply rA_ | apply rN_ | apply rD_));exact (Kd.R_mono (Kd.R_far (p:=⟨gb241,3,none⟩) (Kd.R_far (p:=⟨gb241,2,none⟩) (Kd.R_far (p:=⟨gb241,1,none⟩) (Kd.R_far (p:=⟨gb241,0,none⟩) (Kd.R_types HO216.out BK241.out (by decide)) (fun _ hk=>hk.2) (.string t231)) (fun _ hk=>hk.2) (.slice Ao55 t232.length co55)) (fun _ hk=>hk.2) (.slice Ao56 t235.length co56)) (fun _ hk=>hk.2) (.slice Ao57 t238.length co57)) (fun _ h_=>h_.1))))) (Kd.S_lt (by (with_reducible repeat (first | apply Kd.S_alloc | apply Kd.S_drewN | apply Kd.S_drew));exact (Kd.S_mono (Kd.S_far (p:=⟨gb241,3,none⟩) (Kd.S_far (p:=⟨gb241,2,none⟩) (Kd.S_far (p:=⟨gb241,1,none⟩) (Kd.S_far (p:=⟨gb241,0,none⟩) (Kd.S_types HO219.out BK241.out (by decide)) (fun _ hk=>hk.2) (.string t231)) (fun _ hk=>hk.2) (.slice Ao55 t232.length co55)) (fun _ hk=>hk.2) (.slice Ao56 t235.length co56)) (fun _ hk=>hk.2) (.slice Ao57 t238.length co57)) (fun _ h_=>h_.1))))) (Kd.R_lt (by (with_reducible repeat (first | apply rA_ | apply rN_ | apply rD_));exact (Kd.R_mono (Kd.R_far (p:=⟨gb241,3,none⟩) (Kd.R_far (p:=⟨gb241,2,none⟩) (Kd.R_far (p:=⟨gb241,1,none⟩) (Kd.R_far (p:=⟨gb241,0,none⟩) (Kd.R_types HO226.out BK241.out (by decide)) (fun _ hk=>hk.2) (.string t231)) (fun _ hk=>hk.2) (.slice Ao55 t232.length co55)) (fun _ hk=>hk.2) (.slice Ao56 t235.length co56)) (fun _ hk=>hk.2) (.slice Ao57 t238.length co57)) (fun _ h_=>h_.1))))) (Kd.S_lt (by (with_reducible repeat (first | apply Kd.S_alloc | apply Kd.S_drewN | apply Kd.S_drew));exact (Kd.S_mono (Kd.S_far (p:=⟨gb241,3,none⟩) (Kd.S_far (p:=⟨gb241,2,none⟩) (Kd.S_far (p:=⟨gb241,1,none⟩) (Kd.S_far (p:=⟨gb241,0,none⟩) (Kd.S_types HO229.out BK241.out (by decide)) (fun _ hk=>hk.2) (.string t231)) (fun _ hk=>hk.2) (.slice Ao55 t232.length co55)) (fun _ hk=>hk.2) (.slice Ao56 t235.length co56)) (fun _ hk=>hk.2) (.slice Ao57 t238.length co57)) (fun _ h_=>h_.1))))) (Kd.R_lt (by (with_reducible repeat (first | apply rA_ | apply rN_ | apply rD_));exact (Kd.R_mono (Kd.R_far (p:=⟨gb241,3,none⟩) (Kd.R_far (p:=⟨gb241,2,none⟩) (Kd.R_far (p:=⟨gb241,1,none⟩) (Kd.R_far (p:=⟨gb241,0,none⟩) (Kd.R_types HO237.out BK241.out (by decide)) (fun _ hk=>hk.2) (.string t231)) (fun _ hk=>hk.2) (.slice Ao55 t232.length co55)) (fun _ hk=>hk.2) (.slice Ao56 t235.length co56)) (fun _ hk=>hk.2) (.slice Ao57 t238.length co57)) (fun _ h_=>h_.1))))) (Kd.S_lt (by (with_reducible repeat (first | apply Kd.S_alloc | apply Kd.S_drewN | apply Kd.S_drew));exact (Kd.S_mono (Kd.S_far (p:=⟨gb241,3,none⟩) (Kd.S_far (p:=⟨gb241,2,none⟩) (Kd.S_far (p:=⟨gb241,1,none⟩) (Kd.S_far (p:=⟨gb241,0,none⟩) (Kd.S_types HO240.out BK241.out (by decide)) (fun _ hk=>hk.2) (.string t231)) (fun _ hk=>hk.2) (.slice Ao55 t232.length co55)) (fun _ hk=>hk.2) (.slice Ao56 t235.length co56)) (fun _ hk=>hk.2) (.slice Ao57 t238.length co57)) (fun _ h_=>h_.1))))) (bS_ (by exact bZ_ HB)));have n12_:=aM_ (blk_below (g:=gb206) (o:=.cells #[.string a0_0,.slice A0_1 l0_1.length c0_1,.slice A0_2 l0_2.length c0_2,.slice A0_3 l0_3.length c0_3] 80 (0,0)) (by exact kW_ BK206) hb);have n13_:=aM_ (blk_below (g:=gb207) (o:=.cells #[.string a1_0,.slice A1_1 l1_1.length c1_1,.slice A1_2 l1_2.length c1_2,.slice A1_3 l1_3.length c1_3] 80 (0,0)) (by exact kW_ BK207) hb);have n14_:=aM_ (blk_below (g:=gb241) (o:=.cells #[.string t231,.slice Ao55 t232.length co55,.slice Ao56 t235.length co56,.slice Ao57 t238.length co57] 87 (0,0)) (by (with_reducible repeat (first | refine kN_ ?_ _ | refine kD_ ?_ | refine kA_ ?_ _));refine kP_ (cs:=#[.string t231,.slice Ao55 t232.length co55,.slice Ao56 t235.length co56,.slice none 0 0]) ?_ 3 _ rfl;(with_reducible repeat (first | refine kN_ ?_ _ | refine kD_ ?_ | refine kA_ ?_ _));refine kP_ (cs:=#[.string t231,.slice Ao55 t232.length co55,.slice none 0 0,.slice none 0 0]) ?_ 2 _ rfl;(with_reducible repeat (first | refine kN_ ?_ _ | refine kD_ ?_ | refine kA_ ?_ _));refine kP_ (cs:=#[.string t231,.slice none 0 0,.slice none 0 0,.slice none 0 0]) ?_ 1 _ rfl;(with_reducible repeat (first | refine kN_ ?_ _ | refine kD_ ?_ | refine kA_ ?_ _));refine kP_ (cs:=#[.string (⟨#[]⟩ : ByteArray),.slice none 0 0,.slice none 0 0,.slice none 0 0]) ?_ 0 _ rfl;exact kZ_ BK241) hb);have n15_:=aM_ (bT_ (by exact bZ_ HB) hb);clear HO213 HO216 HO219 HO223 HO226 HO229 HO234 HO237 HO240 BK206 BK207 BK241 HB;have HO213:=n0_;have HO216:=n1_;have HO219:=n2_;have HO223:=n3_;have HO226:=n4_;have HO229:=n5_;have HO234:=n6_;have HO237:=n7_;have HO240:=n8_;have HO245:=n9_;have HO248:=n10_;have HO251:=n11_;have BK206:=n12_;have BK207:=n13_;have BK241:=n14_;have HB:=n15_;clear n0_ n1_ n2_ n3_ n4_ n5_ n6_ n7_ n8_ n9_ n10_ n11_ n12_ n13_ n14_ n15_ hb ho0 ho1 ho2) | ((with_reducible refine gate_dst (N:=8) rfl ?_);refine box_event ?hg (N:=8) ?hd (cs:=#[.string (⟨#[]⟩ : ByteArray),.slice none 0 0,.slice none 0 0,.slice none 0 0]) (t:=87) ?hr ?_;(case hd=>rfl);(case hg=>rfl);(case hr=>first | (go_simp;done) | (go_simp;rfl));intro gb252 hg w60 hbox hb;have n0_:=aM_ (Kd.R_below (by exact rZ_ HO213) hb);have n1_:=aM_ (Kd.R_below (by exact rZ_ HO216) hb);have n2_:=aM_ (Kd.S_below (by (with_reducible repeat (first | apply Kd.S_alloc | apply Kd.S_drewN | apply Kd.S_drew));exact HO219.out) hb);have n3_:=aM_ (Kd.R_below (by exact rZ_ HO223) hb);have n4_:=aM_ (Kd.R_below (by exact rZ_ HO226) hb);have n5_:=aM_ (Kd.S_below (by (with_reducible repeat (first | apply Kd.S_alloc | apply Kd.S_drewN | apply Kd.S_drew));exact HO229.out) hb);have n6_:=aM_ (Kd.R_below (by exact rZ_ HO234) hb);have n7_:=aM_ (Kd.R_below (by exact rZ_ HO237) hb);have n8_:=aM_ (Kd.S_below (by (with_reducible repeat (first | apply Kd.S_alloc | apply Kd.S_drewN | apply Kd.S_drew));exact HO240.out) hb);have n9_:=aM_ (Kd.R_below (by exact rZ_ HO245) hb);have n10_:=aM_ (Kd.R_below (by exact rZ_ HO248) hb);have n11_:=aM_ (Kd.S_below (by (with_reducible repeat (first | apply Kd.S_alloc | apply Kd.S_drewN | apply Kd.S_drew));exact HO251.out) hb);have n12_:=aM_ (blk_below (g:=gb206) (o:=.cells #[.string a0_0,.slice A0_1 l0_1.length c0_1,.slice A0_2 l0_2.length c0_2,.slice A0_3 l0_3.length c0_3] 80 (0,0)) (by exact kZ_ BK206) hb);have n13_:=aM_ (blk_below (g:=gb207) (o:=.cells #[.string a1_0,.slice A1_1 l1_1.length c1_1,.slice A1_2 l1_2.length c1_2,.slice A1_3 l1_3.length c1_3] 80 (0,0)) (by exact kZ_ BK207) hb);have n14_:=aM_ (blk_below (g:=gb241) (o:=.cells #[.string t231,.slice Ao55 t232.length co55,.slice Ao56 t235.length co56,.slice Ao57 t238.length co57] 87 (0,0)) (by exact kZ_ BK241) hb);have n15_:=aM_ (bT_ (by exact bZ_ HB) hb);have n16_:=aM_ (hbox);have n17_:=aM_ ((by rw [hg];exact (bS_ (by exact bZ_ HB)) : w.heap.size ≤ gb252));have n18_:=aM_ ((by rw [hg];exact (bS_ (by exact bZ_ HB)) : w.heap.size ≤ gb252));have n19_:=aM_ ((by rw [hg];exact nN_ (blk_lt (g:=gb206) (o:=.cells #[.string a0_0,.slice A0_1 l0_1.length c0_1,.slice A0_2 l0_2.length c0_2,.slice A0_3 l0_3.length c0_3] 80 (0,0)) (by exact kZ_ BK206)) : gb206 ≠ gb252));have n20_:=aM_ ((by rw [hg];exact Nat.ne_of_gt (blk_lt (g:=gb206) (o:=.cells #[.string a0_0,.slice A0_1 l0_1.length c0_1,.slice A0_2 l0_2.length c0_2,.slice A0_3 l0_3.length c0_3] 80 (0,0)) (by exact kZ_ BK206)) : gb252 ≠ gb206));have n21_:=aM_ ((by rw [hg];exact nN_ (blk_lt (g:=gb207) (o:=.cells #[.string a1_0,.slice A1_1 l1_1.length c1_1,.slice A1_2 l1_2.length c1_2,.slice A1_3 l1_3.length c1_3] 80 (0,0)) (by exact kZ_ BK207)) : gb207 ≠ gb252));have n22_:=aM_ ((by rw [hg];exact Nat.ne_of_gt (blk_lt (g:=gb207) (o:=.cells #[.string a1_0,.slice A1_1 l1_1.length c1_1,.slice A1_2 l1_2.length c1_2,.slice A1_3 l1_3.length c1_3] 80 (0,0)) (by exact kZ_ BK207)) : gb252 ≠ gb207));have n23_:=aM_ ((by rw [hg];exact nN_ (blk_lt (g:=gb241) (o:=.cells #[.string t231,.slice Ao55 t232.length co55,.slice Ao56 t235.length co56,.slice Ao57 t238.length co57] 87 (0,0)) (by exact kZ_ BK241)) : gb241 ≠ gb252));have n24_:=aM_ ((by rw [hg];exact Nat.ne_of_gt (blk_lt (g:=gb241) (o:=.cells #[.string t231,.slice Ao55 t232.length co55,.slice Ao56 t235.length co56,.slice Ao57 t238.length co57] 87 (0,0)) (by exact kZ_ BK241)) : gb252 ≠ gb241));clear HO213 HO216 HO219 HO223 HO226 HO229 HO234 HO237 HO240 HO245 HO248 HO251 BK206 BK207 BK241 HB;have HO213:=n0_;have HO216:=n1_;have HO219:=n2_;have HO223:=n3_;have HO226:=n4_;have HO229:=n5_;have HO234:=n6_;have HO237:=n7_;have HO240:=n8_;have HO245:=n9_;have HO248:=n10_;have HO251:=n11_;have BK206:=n12_;have BK207:=n13_;have BK241:=n14_;have HB:=n15_;have BK252:=n16_;have GW252:=n17_;have GE252:=n18_;have NB206_252:=n19_;have NB252_206:=n20_;have NB207_252:=n21_;have NB252_207:=n22_;have NB241_252:=n23_;have NB252_241:=n24_;clear n0_ n1_ n2_ n3_ n4_ n5_ n6_ n7_ n8_ n9_ n10_ n11_ n12_ n13_ n14_ n15_ n16_ n17_ n18_ n19_ n20_ n21_ n22_ n23_ n24_ hb hbox hg;have hnb61:=NB252_206.out;have hnc61:=NB206_252.out;have hnb62:=NB252_207.out;have hnc62:=NB207_252.out;have hnb63:=NB252_241.out;have hnc63:=NB241_252.out;have hcz64_0 : w60.cell? ⟨gb252,0,none⟩ = some (.string (⟨#[]⟩ : ByteArray)):=(kC_ BK252.out 0).trans rfl;have hcz64_1 : w60.cell? ⟨gb252,1,none⟩ = some (.slice none 0 0):=(kC_ BK252.out 1).trans rfl;have hcz64_2 : w60.cell? ⟨gb252,2,none⟩ = some (.slice none 0 0):=(kC_ BK252.out 2).trans rfl;have hcz64_3 : w60.cell? ⟨gb252,3,none⟩ = some (.slice none 0 0):=(kC_ BK252.out 3).trans rfl;have hfz64_0:=kF_ BK252.out 0;have hfz64_1:=kF_ BK252.out 1;have hfz64_2:=kF_ BK252.out 2;have hfz64_3:=kF_ BK252.out 3;obtain ⟨Ao65,co65,eo65⟩:=Kd.R_slice HO245.out;subst eo65;obtain ⟨Ao66,co66,eo66⟩:=Kd.R_slice HO248.out;subst eo66;obtain ⟨Ao67,co67,eo67⟩:=Kd.S_slice HO251.out;subst eo67;have hcz68_0 : w60.cell? ⟨gb241,0,none⟩ = some (.string t231):=(kC_ BK241.out 0).trans rfl;have hcz68_1 : w60.cell? ⟨gb241,1,none⟩ = some (.slice Ao55 t232.length co55):=(kC_ BK241.out 1).trans rfl;have hcz68_2 : w60.cell? ⟨gb241,2,none⟩ = some (.slice Ao56 t235.length co56):=(kC_ BK241.out 2).trans rfl;have hcz68_3 : w60.cell? ⟨gb241,3,none⟩ = some (.slice Ao57 t238.length co57):=(kC_ BK241.out 3).trans rfl;have hfz68_0:=kF_ BK241.out 0;have hfz68_1:=kF_ BK241.out 1;have hfz68_2:=kF_ BK241.out 2;have hfz68_3:=kF_ BK241.out 3) | ((with_reducible refine gate_callee (f:=64) rfl ?_);refine goesL_ (some 31) rfl rfl Try.func64 (by kernel_rfl) rfl #[.agg #[.string t231,.slice Ao55 t232.length co55,.slice Ao56 t235.length co56,.slice Ao57 t238.length co57],.agg #[.string t242,.slice Ao65 t243.length co65,.slice Ao66 t246.length co66,.slice Ao67 t249.length co67]] rfl (by (try simp only [mA_,mC_,mN_]);first | done | rfl | (simp only [lD_,lT_];rfl)) ?_;(with_reducible refine (impl_SameDef.calls k t231 _ _ t232 _ _ t235 _ _ t238 t242 _ _ t243 _ _ t246 _ _ t249 t253 _ ?side1 ?side2 ?side3 ?side4 ?side5 ?side6 ?side7 ?side8 ?side9 ?side10 ?side11 ?side12 A24.out).mono ?_);(case side1=>refine (Kd.R_reads' (e:=146) (base:=w.heap.size) (ok:=fun k_=>(((True ∧ some k_ ≠ (.slice Ao42 t211.length co42 : Value).ownBlock) ∧ some k_ ≠ (.slice Ao45 t221.length co45 : Value).ownBlock) ∧ some k_ ≠ (.slice Ao65 t243.length co65 : Value).ownBlock)) (n:=t232.length) (c:=co55) ?_).2.2;exact (by (with_reducible repeat (first | apply rA_ | apply rN_ | apply rD_));exact (Kd.R_mono (Kd.R_far (p:=⟨gb252,3,none⟩) (Kd.R_far (p:=⟨gb252,2,none⟩) (Kd.R_far (p:=⟨gb252,1,none⟩) (Kd.R_far (p:=⟨gb252,0,none⟩) (Kd.R_types HO234.out BK252.out (by decide)) (fun _ hk=>hk.2) (.string t242)) (fun _ hk=>hk.2) (.slice Ao65 t243.length co65)) (fun _ hk=>hk.2) (.slice Ao66 t246.length co66)) (fun _ hk=>hk.2) (.slice Ao67 t249.length co67)) (fun _ h_=>h_.1))));(case side2=>exact (Kd.R_reads' HO234.out).2.1);(case side3=>refine (Kd.R_reads' (e:=184) (base:=w.heap.size) (ok:=fun k_=>(((True ∧ some k_ ≠ (.slice Ao43 t214.length co43 : Value).ownBlock) ∧ some k_ ≠ (.slice Ao46 t224.length co46 : Value).ownBlock) ∧ some k_ ≠ (.slice Ao66 t246.length co66 : Value).ownBlock)) (n:=t235.length) (c:=co56) ?_).2.2;exact (by (with_reducible repeat (first | apply rA_ | apply rN_ | apply rD_));exact (Kd.R_mono (Kd.R_far (p:=⟨gb252,3,none⟩) (Kd.R_far (p:=⟨gb252,2,none⟩) (Kd.R_far (p:=⟨gb252,1,none⟩) (Kd.R_far (p:=⟨gb252,0,none⟩) (Kd.R_types HO237.out BK252.out (by decide)) (fun _ hk=>hk.2) (.string t242)) (fun _ hk=>hk.2) (.slice Ao65 t243.length co65)) (fun _ hk=>hk.2) (.slice Ao66 t246.length co66)) (fun _ hk=>hk.2) (.slice Ao67 t249.length co67)) (fun _ h_=>h_.1))));(case side4=>exact (Kd.R_reads' HO237.out).2.1);(case side5=>refine (Kd.S_reads' (e:=148) (base:=w.heap.size) (ok:=fun k_=>((((((some k_ ≠ (.slice Ao56 t235.length co56 : Value).ownBlock ∧ some k_ ≠ (.slice Ao43 t214.length co43 : Value).ownBlock) ∧ some k_ ≠ (.slice Ao44 t217.length co44 : Value).ownBlock) ∧ some k_ ≠ (.slice Ao46 t224.length co46 : Value).ownBlock) ∧ some k_ ≠ (.slice Ao47 t227.length co47 : Value).ownBlock) ∧ some k_ ≠ (.slice Ao66 t246.length co66 : Value).ownBlock) ∧ some k_ ≠ (.slice Ao67 t249.length co67 : Value).ownBlock)) (n:=t238.length) (c:=co57) ?_).2.2;exact (by (with_reducible repeat (first | apply Kd.S_alloc | apply Kd.S_drewN | apply Kd.S_drew));exact (Kd.S_mono (Kd.S_far (p:=⟨gb252,3,none⟩) (Kd.S_far (p:=⟨gb252,2,none⟩) (Kd.S_far (p:=⟨gb252,1,none⟩) (Kd.S_far (p:=⟨gb252,0,none⟩) (Kd.S_types HO240.out BK252.out (by decide)) (fun _ hk=>hk.2) (.string t242)) (fun _ hk=>hk.2) (.slice Ao65 t243.length co65)) (fun _ hk=>hk.2) (.slice Ao66 t246.length co66)) (fun _ hk=>hk.2) (.slice Ao67 t249.length co67)) (fun _ h_=>h_.1))));(case side6=>exact (Kd.S_reads' HO240.out).2.1);(case side7=>refine (Kd.R_reads' (e:=146) (base:=w.heap.size) (ok:=fun k_=>(((True ∧ some k_ ≠ (.slice Ao42 t211.length co42 : Value).ownBlock) ∧ some k_ ≠ (.slice Ao45 t221.length co45 : Value).ownBlock) ∧ some k_ ≠ (.slice Ao55 t232.length co55 : Value).ownBlock)) (n:=t243.length) (c:=co65) ?_).2.2;exact (by (with_reducible repeat (first | apply rA_ | apply rN_ | apply rD_));exact (Kd.R_mono (Kd.R_far (p:=⟨gb252,3,none⟩) (Kd.R_far (p:=⟨gb252,2,none⟩) (Kd.R_far (p:=⟨gb252,1,none⟩) (Kd.R_far (p:=⟨gb252,0,none⟩) (Kd.R_types HO245.out BK252.out (by decide)) (fun _ hk=>hk.2) (.string t242)) (fun _ hk=>hk.2) (.slice Ao65 t243.length co65)) (fun _ hk=>hk.2) (.slice Ao66 t246.length co66)) (fun _ hk=>hk.2) (.slice Ao67 t249.length co67)) (fun _ h_=>h_.1))));(case side8=>exact (Kd.R_reads' HO245.out).2.1);(case side9=>refine (Kd.R_reads' (e:=184) (base:=w.heap.size) (ok:=fun k_=>(((True ∧ some k_ ≠ (.slice Ao43 t214.length co43 : Value).ownBlock) ∧ some k_ ≠ (.slice Ao46 t224.length co46 : Value).ownBlock) ∧ some k_ ≠ (.slice Ao56 t235.length co56 : Value).ownBlock)) (n:=t246.length) (c:=co66) ?_).2.2;exact (by (with_reducible repeat (first | apply rA_ | apply rN_ | apply rD_));exact (Kd.R_mono (Kd.R_far (p:=⟨gb252,3,none⟩) (Kd.R_far (p:=⟨gb252,2,none⟩) (Kd.R_far (p:=⟨gb252,1,none⟩) (Kd.R_far (p:=⟨gb252,0,none⟩) (Kd.R_types HO248.out BK252.out (by decide)) (fun _ hk=>hk.2) (.string t242)) (fun _ hk=>hk.2) (.slice Ao65 t243.length co65)) (fun _ hk=>hk.2) (.slice Ao66 t246.length co66)) (fun _ hk=>hk.2) (.slice Ao67 t249.length co67)) (fun _ h_=>h_.1))));(case side10=>exact (Kd.R_reads' HO248.out).2.1);(case side11=>refine (Kd.S_reads' (e:=148) (base:=w.heap.size) (ok:=fun k_=>((((((some k_ ≠ (.slice Ao66 t246.length co66 : Value).ownBlock ∧ some k_ ≠ (.slice Ao43 t214.length co43 : Value).ownBlock) ∧ some k_ ≠ (.slice Ao44 t217.length co44 : Value).ownBlock) ∧ some k_ ≠ (.slice Ao46 t224.length co46 : Value).ownBlock) ∧ some k_ ≠ (.slice Ao47 t227.length co47 : Value).ownBlock) ∧ some k_ ≠ (.slice Ao56 t235.length co56 : Value).ownBlock) ∧ some k_ ≠ (.slice Ao57 t238.length co57 : Value).ownBlock)) (n:=t249.length) (c:=co67) ?_).2.2;exact (by (with_reducible repeat (first | apply Kd.S_alloc | apply Kd.S_drewN | apply Kd.S_drew));exact (Kd.S_mono (Kd.S_far (p:=⟨gb252,3,none⟩) (Kd.S_far (p:=⟨gb252,2,none⟩) (Kd.S_far (p:=⟨gb252,1,none⟩) (Kd.S_far (p:=⟨gb252,0,none⟩) (Kd.S_types HO251.out BK252.out (by decide)) (fun _ hk=>hk.2) (.string t242)) (fun _ hk=>hk.2) (.slice Ao65 t243.length co65)) (fun _ hk=>hk.2) (.slice Ao66 t246.length co66)) (fun _ hk=>hk.2) (.slice Ao67 t249.length co67)) (fun _ h_=>h_.1))));(case side12=>exact (Kd.S_reads' HO251.out).2.1);rintro e w69 ⟨rfl,hb⟩;refine ⟨_,rfl,?_⟩;have n0_:=aM_ (Kd.R_below (by (with_reducible repeat (first | apply rA_ | apply rN_ | apply rD_));exact (Kd.R_mono (Kd.R_far (p:=⟨gb252,3,none⟩) (Kd.R_far (p:=⟨gb252,2,none⟩) (Kd.R_far (p:=⟨gb252,1,none⟩) (Kd.R_far (p:=⟨gb252,0,none⟩) (Kd.R_types HO213.out BK252.out (by decide)) (fun _ hk=>hk.2) (.string t242)) (fun _ hk=>hk.2) (.slice Ao65 t243.length co65)) (fun _ hk=>hk.2) (.slice Ao66 t246.length co66)) (fun _ hk=>hk.2) (.slice Ao67 t249.length co67)) (fun _ h_=>h_.1))) hb);have n1_:=aM_ (Kd.R_below (by (with_reducible repeat (first | apply rA_ | apply rN_ | apply rD_));exact (Kd.R_mono (Kd.R_far (p:=⟨gb252,3,none⟩) (Kd.R_far (p:=⟨gb252,2,none⟩) (Kd.R_far (p:=⟨gb252,1,none⟩) (Kd.R_far (p:=⟨gb252,0,none⟩) (Kd.R_types HO216.out BK252.out (by decide)) (fun _ hk=>hk.2) (.string t242)) (fun _ hk=>hk.2) (.slice Ao65 t243.length co65)) (fun _ hk=>hk.2) (.slice Ao66 t246.length co66)) (fun _ hk=>hk.2) (.slice Ao67 t249.length co67)) (fun _ h_=>h_.1))) hb);have n2_:=aM_ (Kd.S_below (by (with_reducible repeat (first | apply Kd.S_alloc | apply Kd.S_drewN | apply Kd.S_drew));exact (Kd.S_mono (Kd.S_far (p:=⟨gb252,3,none⟩) (Kd.S_far (p:=⟨gb252,2,none⟩) (Kd.S_far (p:=⟨gb252,1,none⟩) (Kd.S_far (p:=⟨gb252,0,none⟩) (Kd.S_types HO219.out BK252.out (by decide)) (fun _ hk=>hk.2) (.string t242)) (fun _ hk=>hk.2) (.slice Ao65 t243.length co65)) (fun _ hk=>hk.2) (.slice Ao66 t246.length co66)) (fun _ hk=>hk.2) (.slice Ao67 t249.length co67)) (fun _ h_=>h_.1))) hb);have n3_:=aM_ (Kd.R_below (by (with_reducible repeat (first | apply rA_ | apply rN_ | apply rD_));exact (Kd.R_mono (Kd.R_far (p:=⟨gb252,3,none⟩) (Kd.R_far (p:=⟨gb252,2,none⟩) (Kd.R_far (p:=⟨gb252,1,none⟩) (Kd.R_far (p:=⟨gb252,0,none⟩) (Kd.R_types HO223.out BK252.out (by decide)) (fun _ hk=>hk.2) (.string t242)) (fun _ hk=>hk.2) (.slice Ao65 t243.length co65)) (fun _ hk=>hk.2) (.slice Ao66 t246.length co66)) (fun _ hk=>hk.2) (.slice Ao67 t249.length co67)) (fun _ h_=>h_.1))) hb);have n4_:=aM_ (Kd.R_below (by (with_reducible repeat (first | apply rA_ | apply rN_ | apply rD_));exact (Kd.R_mono (Kd.R_far (p:=⟨gb252,3,none⟩) (Kd.R_far (p:=⟨gb252,2,none⟩) (Kd.R_far (p:=⟨gb252,1,none⟩) (Kd.R_far (p:=⟨gb252,0,none⟩) (Kd.R_types HO226.out BK252.out (by decide)) (fun _ hk=>hk.2) (.string t242)) (fun _ hk=>hk.2) (.slice Ao65 t243.length co65)) (fun _ hk=>hk.2) (.slice Ao66 t246.length co66)) (fun _ hk=>hk.2) (.slice Ao67 t249.length co67)) (fun _ h_=>h_.1))) hb);have n5_:=aM_ (Kd.S_below (by (with_reducible repeat (first | apply Kd.S_alloc | apply Kd.S_drewN | apply Kd.S_drew));exact (Kd.S_mono (Kd.S_far (p:=⟨gb252,3,none⟩) (Kd.S_far (p:=⟨gb252,2,none⟩) (Kd.S_far (p:=⟨gb252,1,none⟩) (Kd.S_far (p:=⟨gb252,0,none⟩) (Kd.S_types HO229.out BK252.out (by decide)) (fun _ hk=>hk.2) (.string t242)) (fun _ hk=>hk.2) (.slice Ao65 t243.length co65)) (fun _ hk=>hk.2) (.slice Ao66 t246.length co66)) (fun _ hk=>hk.2) (.slice Ao67 t249.length co67)) (fun _ h_=>h_.1))) hb);have n6_:=aM_ (Kd.R_below (by (with_reducible repeat (first | apply rA_ | apply rN_ | apply rD_));exact (Kd.R_mono (Kd.R_far (p:=⟨gb252,3,none⟩) (Kd.R_far (p:=⟨gb252,2,none⟩) (Kd.R_far (p:=⟨gb252,1,none⟩) (Kd.R_far (p:=⟨gb252,0,none⟩) (Kd.R_types HO234.out BK252.out (by decide)) (fun _ hk=>hk.2) (.string t242)) (fun _ hk=>hk.2) (.slice Ao65 t243.length co65)) (fun _ hk=>hk.2) (.slice Ao66 t246.length co66)) (fun _ hk=>hk.2) (.slice Ao67 t249.length co67)) (fun _ h_=>h_.1))) hb);have n7_:=aM_ (Kd.R_below (by (with_reducible repeat (first | apply rA_ | apply rN_ | apply rD_));exact (Kd.R_mono (Kd.R_far (p:=⟨gb252,3,none⟩) (Kd.R_far (p:=⟨gb252,2,none⟩) (Kd.R_far (p:=⟨gb252,1,none⟩) (Kd.R_far (p:=⟨gb252,0,none⟩) (Kd.R_types HO237.out BK252.out (by decide)) (fun _ hk=>hk.2) (.string t242)) (fun _ hk=>hk.2) (.slice Ao65 t243.length co65)) (fun _ hk=>hk.2) (.slice Ao66 t246.length co66)) (fun _ hk=>hk.2) (.slice Ao67 t249.length co67)) (fun _ h_=>h_.1))) hb);have n8_:=aM_ (Kd.S_below (by (with_reducible repeat (first | apply Kd.S_alloc | apply Kd.S_drewN | apply Kd.S_drew));exact (Kd.S_mono (Kd.S_far (p:=⟨gb252,3,none⟩) (Kd.S_far (p:=⟨gb252,2,none⟩) (Kd.S_far (p:=⟨gb252,1,none⟩) (Kd.S_far (p:=⟨gb252,0,none⟩) (Kd.S_types HO240.out BK252.out (by decide)) (fun _ hk=>hk.2) (.string t242)) (fun _ hk=>hk.2) (.slice Ao65 t243.length co65)) (fun _ hk=>hk.2) (.slice Ao66 t246.length co66)) (fun _ hk=>hk.2) (.slice Ao67 t249.length co67)) (fun _ h_=>h_.1))) hb);have n9_:=aM_ (Kd.R_below (by (with_reducible repeat (first | apply rA_ | apply rN_ | apply rD_));exact (Kd.R_mono (Kd.R_far (p:=⟨gb252,3,none⟩) (Kd.R_far (p:=⟨gb252,2,none⟩) (Kd.R_far (p:=⟨gb252,1,none⟩) (Kd.R_far (p:=⟨gb252,0,none⟩) (Kd.R_types HO245.out BK252.out (by decide)) (fun _ hk=>hk.2) (.string t242)) (fun _ hk=>hk.2) (.slice Ao65 t243.length co65)) (fun _ hk=>hk.2) (.slice Ao66 t246.length co66)) (fun _ hk=>hk.2) (.slice Ao67 t249.length co67)) (fun _ h_=>h_.1))) hb);have n10_:=aM_ (Kd.R_below (by (with_reducible repeat (first | apply rA_ | apply rN_ | apply rD_));exact (Kd.R_mono (Kd.R_far (p:=⟨gb252,3,none⟩) (Kd.R_far (p:=⟨gb252,2,none⟩) (Kd.R_far (p:=⟨gb252,1,none⟩) (Kd.R_far (p:=⟨gb252,0,none⟩) (Kd.R_types HO248.out BK252.out (by decide)) (fun _ hk=>hk.2) (.string t242)) (fun _ hk=>hk.2) (.slice Ao65 t243.length co65)) (fun _ hk=>hk.2) (.slice Ao66 t246.length co66)) (fun _ hk=>hk.2) (.slice Ao67 t249.length co67)) (fun _ h_=>h_.1))) hb);have n11_:=aM_ (Kd.S_below (by (with_reducible repeat (first | apply Kd.S_alloc | apply Kd.S_drewN | apply Kd.S_drew));exact (Kd.S_mono (Kd.S_far (p:=⟨gb252,3,none⟩) (Kd.S_far (p:=⟨gb252,2,none⟩) (Kd.S_far (p:=⟨gb252,1,none⟩) (Kd.S_far (p:=⟨gb252,0,none⟩) (Kd.S_types HO251.out BK252.out (by decide)) (fun _ hk=>hk.2) (.string t242)) (fun _ hk=>hk.2) (.slice Ao65 t243.length co65)) (fun _ hk=>hk.2) (.slice Ao66 t246.length co66)) (fun _ hk=>hk.2) (.slice Ao67 t249.length co67)) (fun _ h_=>h_.1))) hb);have n12_:=aM_ (blk_below (g:=gb206) (o:=.cells #[.string a0_0,.slice A0_1 l0_1.length c0_1,.slice A0_2 l0_2.length c0_2,.slice A0_3 l0_3.length c0_3] 80 (0,0)) (by exact kW_ BK206) hb);have n13_:=aM_ (blk_below (g:=gb207) (o:=.cells #[.string a1_0,.slice A1_1 l1_1.length c1_1,.slice A1_2 l1_2.length c1_2,.slice A1_3 l1_3.length c1_3] 80 (0,0)) (by exact kW_ BK207) hb);have n14_:=aM_ (blk_below (g:=gb241) (o:=.cells #[.string t231,.slice Ao55 t232.length co55,.slice Ao56 t235.length co56,.slice Ao57 t238.length co57] 87 (0,0)) (by exact kW_ BK241) hb);have n15_:=aM_ (blk_below (g:=gb252) (o:=.cells #[.string t242,.slice Ao65 t243.length co65,.slice Ao66 t246.length co66,.slice Ao67 t249.length co67] 87 (0,0)) (by (with_reducible repeat (first | refine kN_ ?_ _ | refine kD_ ?_ | refine kA_ ?_ _));refine kP_ (cs:=#[.string t242,.slice Ao65 t243.length co65,.slice Ao66 t246.length co66,.slice none 0 0]) ?_ 3 _ rfl;(with_reducible repeat (first | refine kN_ ?_ _ | refine kD_ ?_ | refine kA_ ?_ _));refine kP_ (cs:=#[.string t242,.slice Ao65 t243.length co65,.slice none 0 0,.slice none 0 0]) ?_ 2 _ rfl;(with_reducible repeat (first | refine kN_ ?_ _ | refine kD_ ?_ | refine kA_ ?_ _));refine kP_ (cs:=#[.string t242,.slice none 0 0,.slice none 0 0,.slice none 0 0]) ?_ 1 _ rfl;(with_reducible repeat (first | refine kN_ ?_ _ | refine kD_ ?_ | refine kA_ ?_ _));refine kP_ (cs:=#[.string (⟨#[]⟩ : ByteArray),.slice none 0 0,.slice none 0 0,.slice none 0 0]) ?_ 0 _ rfl;exact kZ_ BK252) hb);have n16_:=aM_ (bT_ (by exact bZ_ HB) hb);clear HO213 HO216 HO219 HO223 HO226 HO229 HO234 HO237 HO240 HO245 HO248 HO251 BK206 BK207 BK241 BK252 HB;have HO213:=n0_;have HO216:=n1_;have HO219:=n2_;have HO223:=n3_;have HO226:=n4_;have HO229:=n5_;have HO234:=n6_;have HO237:=n7_;have HO240:=n8_;have HO245:=n9_;have HO248:=n10_;have HO251:=n11_;have BK206:=n12_;have BK207:=n13_;have BK241:=n14_;have BK252:=n15_;have HB:=n16_;clear n0_ n1_ n2_ n3_ n4_ n5_ n6_ n7_ n8_ n9_ n10_ n11_ n12_ n13_ n14_ n15_ n16_ hb))
      have n0_:=aM_ (rD_ HO213.out)
      have n1_:=aM_ (rD_ HO216.out)
      have n2_:=aM_ (Kd.S_drew HO219.out)
      have n3_:=aM_ (rD_ HO223.out)
      have n4_:=aM_ (rD_ HO226.out)
      have n5_:=aM_ (Kd.S_drew HO229.out)
      have n6_:=aM_ (rD_ HO234.out)
      have n7_:=aM_ (rD_ HO237.out)
      have n8_:=aM_ (Kd.S_drew HO240.out)
      have n9_:=aM_ (rD_ HO245.out)
      have n10_:=aM_ (rD_ HO248.out)
      have n11_:=aM_ (Kd.S_drew HO251.out)
      have n12_:=aM_ (kD_ BK206.out)
      have n13_:=aM_ (kD_ BK207.out)
      have n14_:=aM_ (kD_ BK241.out)
      have n15_:=aM_ (kD_ BK252.out)
      have n16_:=aM_ (bD_ HB.out)
      clear HO213 HO216 HO219 HO223 HO226 HO229 HO234 HO237 HO240 HO245 HO248 HO251 BK206 BK207 BK241 BK252 HB
      have HO213:=n0_
      have HO216:=n1_
      have HO219:=n2_
      have HO223:=n3_
      have HO226:=n4_
      have HO229:=n5_
      have HO234:=n6_
      have HO237:=n7_
      have HO240:=n8_
      have HO245:=n9_
      have HO248:=n10_
      have HO251:=n11_
      have BK206:=n12_
      have BK207:=n13_
      have BK241:=n14_
      have BK252:=n15_
      have HB:=n16_
      clear n0_ n1_ n2_ n3_ n4_ n5_ n6_ n7_ n8_ n9_ n10_ n11_ n12_ n13_ n14_ n15_ n16_
      refine start_ (n:=5) (S:=fun w'=>w'.cell? ⟨gb241,0,none⟩ = some (.string t231) ∧ w'.cell? ⟨gb241,1,none⟩ = some (.slice Ao55 t232.length co55) ∧ w'.cell? ⟨gb241,2,none⟩ = some (.slice Ao56 t235.length co56) ∧ w'.cell? ⟨gb241,3,none⟩ = some (.slice Ao57 t238.length co57) ∧ w'.cell? ⟨gb206,0,none⟩ = some (.string a0_0) ∧ w'.cell? ⟨gb206,1,none⟩ = some (.slice A0_1 l0_1.length c0_1) ∧ w'.cell? ⟨gb206,2,none⟩ = some (.slice A0_2 l0_2.length c0_2) ∧ w'.cell? ⟨gb206,3,none⟩ = some (.slice A0_3 l0_3.length c0_3)) (ds:=[]) #[false,false,false,false,false] (by kernel_rfl) rfl rfl ⟨(kC_ BK241.out 0).trans rfl,(kC_ BK241.out 1).trans rfl,(kC_ BK241.out 2).trans rfl,(kC_ BK241.out 3).trans rfl,(kC_ BK206.out 0).trans rfl,(kC_ BK206.out 1).trans rfl,(kC_ BK206.out 2).trans rfl,(kC_ BK206.out 3).trans rfl⟩ (fun hHeld=>?_)
      generalize w69.drew = w70 at HO213 HO216 HO219 HO223 HO226 HO229 HO234 HO237 HO240 HO245 HO248 HO251 BK206 BK207 BK241 BK252 HB hHeld ⊢
      refine take_ (i:=0) (N:=some 35) (v:=?_) (a':=?_) #[true,false,false,false,false] rfl rfl (by kernel_rfl) (fun _ _ _ h=>h) (Or.inl ⟨by rfl,?_⟩) hHeld ?_ ?_
      rotate_left
      ·rintro w' ⟨s0,s1,s2,s3,s4,s5,s6,s7⟩
       go_simp
       with_reducible rfl
      rotate_left
      ·simp only [Act.put,sI_,sZ_,sS_,i64_w,i32_w]
       rfl
      refine take_ (i:=1) (N:=some 36) (v:=?_) (a':=?_) #[true,true,false,false,false] rfl rfl (by kernel_rfl) (fun _ _ _ h=>h) (Or.inl ⟨by rfl,?_⟩) hHeld ?_ ?_
      rotate_left
      ·rintro w' ⟨s0,s1,s2,s3,s4,s5,s6,s7⟩
       go_simp
       with_reducible rfl
      rotate_left
      ·simp only [Act.put,sI_,sZ_,sS_,i64_w,i32_w]
       rfl
      refine one_ (i:=2) (N:=some 37) #[true,true,true,false,false] rfl rfl (by kernel_rfl) (by decide) (fun K hK=>?_)
      refine goes_ Try.func63 (by kernel_rfl) rfl #[.agg #[.string a0_0,.slice A0_1 l0_1.length c0_1,.slice A0_2 l0_2.length c0_2,.slice A0_3 l0_3.length c0_3]] (by rfl) rfl rfl (by (try simp only [mA_,mC_,mN_]);first | done | rfl | (simp only [lD_,lT_];rfl)) ?_
      with_reducible refine (laws_toDef.calls k a0_0 _ _ l0_1 _ _ l0_2 _ _ l0_3 t254 t255 t258 t261 _ ?side1 ?side2 ?side3 ?side4 ?side5 ?side6 A26.out).mono ?_
      (case side1=>repeat (first | exact (Kd.C_below HR0_1.out HB.out) | (with_reducible refine cA_ ?_ _) | (with_reducible refine cN_ ?_ _) | (with_reducible refine cD_ ?_)))
      (case side2=>exact HC0_1.out)
      (case side3=>repeat (first | exact (Kd.C_below HR0_2.out HB.out) | (with_reducible refine cA_ ?_ _) | (with_reducible refine cN_ ?_ _) | (with_reducible refine cD_ ?_)))
      (case side4=>exact HC0_2.out)
      (case side5=>repeat (first | exact (Kd.C_below HR0_3.out HB.out) | (with_reducible refine cA_ ?_ _) | (with_reducible refine cN_ ?_ _) | (with_reducible refine cD_ ?_)))
      (case side6=>exact HC0_3.out)
      rintro e w71 ⟨v256,v259,v262,rfl,ho0,ho1,ho2,hb⟩
      refine ⟨_,rfl,?_⟩
      have n0_:=aM_ (Kd.R_elder' (by exact rZ_ HO213) (Kd.R_base ho0) hb)
      have n1_:=aM_ (Kd.R_elder' (by exact rZ_ HO216) (Kd.R_base ho1) hb)
      have n2_:=aM_ (Kd.S_mono (Kd.S_told (Kd.S_told (Kd.S_old (by (with_reducible repeat (first | apply Kd.S_alloc | apply Kd.S_drewN | apply Kd.S_drew));exact HO219.out) hb) (Kd.R_base ho1)) (Kd.S_base ho2)) (fun _ h_=>h_.1))
      have n3_:=aM_ (Kd.R_elder' (by exact rZ_ HO223) (Kd.R_base ho0) hb)
      have n4_:=aM_ (Kd.R_elder' (by exact rZ_ HO226) (Kd.R_base ho1) hb)
      have n5_:=aM_ (Kd.S_mono (Kd.S_told (Kd.S_told (Kd.S_old (by (with_reducible repeat (first | apply Kd.S_alloc | apply Kd.S_drewN | apply Kd.S_drew));exact HO229.out) hb) (Kd.R_base ho1)) (Kd.S_base ho2)) (fun _ h_=>h_.1))
      have n6_:=aM_ (Kd.R_elder' (by exact rZ_ HO234) (Kd.R_base ho0) hb)
      have n7_:=aM_ (Kd.R_elder' (by exact rZ_ HO237) (Kd.R_base ho1) hb)
      have n8_:=aM_ (Kd.S_mono (Kd.S_told (Kd.S_told (Kd.S_old (by (with_reducible repeat (first | apply Kd.S_alloc | apply Kd.S_drewN | apply Kd.S_drew));exact HO240.out) hb) (Kd.R_base ho1)) (Kd.S_base ho2)) (fun _ h_=>h_.1))
      have n9_:=aM_ (Kd.R_elder' (by exact rZ_ HO245) (Kd.R_base ho0) hb)
      have n10_:=aM_ (Kd.R_elder' (by exact rZ_ HO248) (Kd.R_base ho1) hb)
      have n11_:=aM_ (Kd.S_mono (Kd.S_told (Kd.S_told (Kd.S_old (by (with_reducible repeat (first | apply Kd.S_alloc | apply Kd.S_drewN | apply Kd.S_drew));exact HO251.out) hb) (Kd.R_base ho1)) (Kd.S_base ho2)) (fun _ h_=>h_.1))
      have n12_:=aM_ (Kd.R_lower (Kd.R_new' (Kd.R_new' (Kd.R_new' (Kd.R_new' ho0 (Kd.R_lt (by exact rZ_ HO213))) (Kd.R_lt (by exact rZ_ HO223))) (Kd.R_lt (by exact rZ_ HO234))) (Kd.R_lt (by exact rZ_ HO245))) (bS_ (by exact bZ_ HB)))
      have n13_:=aM_ (Kd.R_lower (Kd.R_new' (Kd.R_new' (Kd.R_new' (Kd.R_new' ho1 (Kd.R_lt (by exact rZ_ HO216))) (Kd.R_lt (by exact rZ_ HO226))) (Kd.R_lt (by exact rZ_ HO237))) (Kd.R_lt (by exact rZ_ HO248))) (bS_ (by exact bZ_ HB)))
      have n14_:=aM_ (Kd.S_lower (Kd.S_new' (Kd.S_new' (Kd.S_new' (Kd.S_new' (Kd.S_new' (Kd.S_new' (Kd.S_new' (Kd.S_new' ho2 (Kd.R_lt (by exact rZ_ HO216))) (Kd.S_lt (by (with_reducible repeat (first | apply Kd.S_alloc | apply Kd.S_drewN | apply Kd.S_drew));exact HO219.out))) (Kd.R_lt (by exact rZ_ HO226))) (Kd.S_lt (by (with_reducible repeat (first | apply Kd.S_alloc | apply Kd.S_drewN | apply Kd.S_drew));exact HO229.out))) (Kd.R_lt (by exact rZ_ HO237))) (Kd.S_lt (by (with_reducible repeat (first | apply Kd.S_alloc | apply Kd.S_drewN | apply Kd.S_drew));exact HO240.out))) (Kd.R_lt (by exact rZ_ HO248))) (Kd.S_lt (by (with_reducible repeat (first | apply Kd.S_alloc | apply Kd.S_drewN | apply Kd.S_drew));exact HO251.out))) (bS_ (by exact bZ_ HB)))
      have n15_:=aM_ (blk_below (g:=gb206) (o:=.cells #[.string a0_0,.slice A0_1 l0_1.length c0_1,.slice A0_2 l0_2.length c0_2,.slice A0_3 l0_3.length c0_3] 80 (0,0)) (by exact kZ_ BK206) hb)
      have n16_:=aM_ (blk_below (g:=gb207) (o:=.cells #[.string a1_0,.slice A1_1 l1_1.length c1_1,.slice A1_2 l1_2.length c1_2,.slice A1_3 l1_3.length c1_3] 80 (0,0)) (by exact kZ_ BK207) hb)
      have n17_:=aM_ (blk_below (g:=gb241) (o:=.cells #[.string t231,.slice Ao55 t232.length co55,.slice Ao56 t235.length co56,.slice Ao57 t238.length co57] 87 (0,0)) (by exact kZ_ BK241) hb)
      have n18_:=aM_ (blk_below (g:=gb252) (o:=.cells #[.string t242,.slice Ao65 t243.length co65,.slice Ao66 t246.length co66,.slice Ao67 t249.length co67] 87 (0,0)) (by exact kZ_ BK252) hb)
      have n19_:=aM_ (bT_ (by exact bZ_ HB) hb)
      clear HO213 HO216 HO219 HO223 HO226 HO229 HO234 HO237 HO240 HO245 HO248 HO251 BK206 BK207 BK241 BK252 HB
      have HO213:=n0_
      have HO216:=n1_
      have HO219:=n2_
      have HO223:=n3_
      have HO226:=n4_
      have HO229:=n5_
      have HO234:=n6_
      have HO237:=n7_
      have HO240:=n8_
      have HO245:=n9_
      have HO248:=n10_
      have HO251:=n11_
      have HO257:=n12_
      have HO260:=n13_
      have HO263:=n14_
      have BK206:=n15_
      have BK207:=n16_
      have BK241:=n17_
      have BK252:=n18_
      have HB:=n19_
      clear n0_ n1_ n2_ n3_ n4_ n5_ n6_ n7_ n8_ n9_ n10_ n11_ n12_ n13_ n14_ n15_ n16_ n17_ n18_ n19_ hb
      skip
      skip
      skip
      clear ho0 ho1 ho2
      obtain ⟨Ao72,co72,eo72⟩:=Kd.R_slice HO257.out
      (first | subst eo72 | (injection eo72 with f1_ f2_ f3_;have f4_:=f1_.symm;have f5_:=f3_.symm;clear f1_ f2_ f3_;subst f4_;subst f5_))
      obtain ⟨Ao73,co73,eo73⟩:=Kd.R_slice HO260.out
      (first | subst eo73 | (injection eo73 with f1_ f2_ f3_;have f4_:=f1_.symm;have f5_:=f3_.symm;clear f1_ f2_ f3_;subst f4_;subst f5_))
      obtain ⟨Ao74,co74,eo74⟩:=Kd.S_slice HO263.out
      (first | subst eo74 | (injection eo74 with f1_ f2_ f3_;have f4_:=f1_.symm;have f5_:=f3_.symm;clear f1_ f2_ f3_;subst f4_;subst f5_))
      refine hK.out _ _ ⟨(kC_ BK241.out 0).trans rfl,(kC_ BK241.out 1).trans rfl,(kC_ BK241.out 2).trans rfl,(kC_ BK241.out 3).trans rfl,(kC_ BK206.out 0).trans rfl,(kC_ BK206.out 1).trans rfl,(kC_ BK206.out 2).trans rfl,(kC_ BK206.out 3).trans rfl⟩ (fun hHeld=>?_)
      clear hK K
      refine norm_ (a':=?_) ?_ ?_
      rotate_left
      ·show Act.put _ (some 37) _ = _
       simp only [Act.put,sI_,sZ_,sS_,i64_w,i32_w]
       rfl
      refine one_ (i:=3) (N:=some 38) #[true,true,true,true,false] rfl rfl (by kernel_rfl) (by decide) (fun K hK=>?_)
      refine goes_ Try.func65 (by kernel_rfl) rfl #[.agg #[.string t231,.slice Ao55 t232.length co55,.slice Ao56 t235.length co56,.slice Ao57 t238.length co57],.agg #[.string t254,.slice Ao72 t255.length co72,.slice Ao73 t258.length co73,.slice Ao74 t261.length co74]] (by rfl) rfl rfl (by (try simp only [mA_,mC_,mN_]);first | done | rfl | (simp only [lD_,lT_];rfl)) ?_
      with_reducible refine (laws_eqDef.calls k t231 _ _ t232 _ _ t235 _ _ t238 t254 _ _ t255 _ _ t258 _ _ t261 true _ ?side1 ?side2 ?side3 ?side4 ?side5 ?side6 ?side7 ?side8 ?side9 ?side10 ?side11 ?side12 A27.out).mono ?_
      (case side1=>repeat (first | exact (Kd.R_reads' HO234.out).2.2 | (with_reducible refine cA_ ?_ _) | (with_reducible refine cN_ ?_ _) | (with_reducible refine cD_ ?_)))
      (case side2=>exact (Kd.R_reads' HO234.out).2.1)
      (case side3=>repeat (first | exact (Kd.R_reads' HO237.out).2.2 | (with_reducible refine cA_ ?_ _) | (with_reducible refine cN_ ?_ _) | (with_reducible refine cD_ ?_)))
      (case side4=>exact (Kd.R_reads' HO237.out).2.1)
      (case side5=>repeat (first | exact (Kd.S_reads' HO240.out).2.2 | (with_reducible refine cA_ ?_ _) | (with_reducible refine cN_ ?_ _) | (with_reducible refine cD_ ?_)))
      (case side6=>exact (Kd.S_reads' HO240.out).2.1)
      (case side7=>repeat (first | exact (Kd.R_reads' HO257.out).2.2 | (with_reducible refine cA_ ?_ _) | (with_reducible refine cN_ ?_ _) | (with_reducible refine cD_ ?_)))
      (case side8=>exact (Kd.R_reads' HO257.out).2.1)
      (case side9=>repeat (first | exact (Kd.R_reads' HO260.out).2.2 | (with_reducible refine cA_ ?_ _) | (with_reducible refine cN_ ?_ _) | (with_reducible refine cD_ ?_)))
      (case side10=>exact (Kd.R_reads' HO260.out).2.1)
      (case side11=>repeat (first | exact (Kd.S_reads' HO263.out).2.2 | (with_reducible refine cA_ ?_ _) | (with_reducible refine cN_ ?_ _) | (with_reducible refine cD_ ?_)))
      (case side12=>exact (Kd.S_reads' HO263.out).2.1)
      rintro e w75 ⟨rfl,hb⟩
      refine ⟨_,rfl,?_⟩
      have n0_:=aM_ (Kd.R_below (by exact rZ_ HO213) hb)
      have n1_:=aM_ (Kd.R_below (by exact rZ_ HO216) hb)
      have n2_:=aM_ (Kd.S_below (by (with_reducible repeat (first | apply Kd.S_alloc | apply Kd.S_drewN | apply Kd.S_drew));exact HO219.out) hb)
      have n3_:=aM_ (Kd.R_below (by exact rZ_ HO223) hb)
      have n4_:=aM_ (Kd.R_below (by exact rZ_ HO226) hb)
      have n5_:=aM_ (Kd.S_below (by (with_reducible repeat (first | apply Kd.S_alloc | apply Kd.S_drewN | apply Kd.S_drew));exact HO229.out) hb)
      have n6_:=aM_ (Kd.R_below (by exact rZ_ HO234) hb)
      have n7_:=aM_ (Kd.R_below (by exact rZ_ HO237) hb)
      have n8_:=aM_ (Kd.S_below (by (with_reducible repeat (first | apply Kd.S_alloc | apply Kd.S_drewN | apply Kd.S_drew));exact HO240.out) hb)
      have n9_:=aM_ (Kd.R_below (by exact rZ_ HO245) hb)
      have n10_:=aM_ (Kd.R_below (by exact rZ_ HO248) hb)
      have n11_:=aM_ (Kd.S_below (by (with_reducible repeat (first | apply Kd.S_alloc | apply Kd.S_drewN | apply Kd.S_drew));exact HO251.out) hb)
      have n12_:=aM_ (Kd.R_below (by exact rZ_ HO257) hb)
      have n13_:=aM_ (Kd.R_below (by exact rZ_ HO260) hb)
      have n14_:=aM_ (Kd.S_below (by (with_reducible repeat (first | apply Kd.S_alloc | apply Kd.S_drewN | apply Kd.S_drew));exact HO263.out) hb)
      have n15_:=aM_ (blk_below (g:=gb206) (o:=.cells #[.string a0_0,.slice A0_1 l0_1.length c0_1,.slice A0_2 l0_2.length c0_2,.slice A0_3 l0_3.length c0_3] 80 (0,0)) (by exact kZ_ BK206) hb)
      have n16_:=aM_ (blk_below (g:=gb207) (o:=.cells #[.string a1_0,.slice A1_1 l1_1.length c1_1,.slice A1_2 l1_2.length c1_2,.slice A1_3 l1_3.length c1_3] 80 (0,0)) (by exact kZ_ BK207) hb)
      have n17_:=aM_ (blk_below (g:=gb241) (o:=.cells #[.string t231,.slice Ao55 t232.length co55,.slice Ao56 t235.length co56,.slice Ao57 t238.length co57] 87 (0,0)) (by exact kZ_ BK241) hb)
      have n18_:=aM_ (blk_below (g:=gb252) (o:=.cells #[.string t242,.slice Ao65 t243.length co65,.slice Ao66 t246.length co66,.slice Ao67 t249.length co67] 87 (0,0)) (by exact kZ_ BK252) hb)
      have n19_:=aM_ (bT_ (by exact bZ_ HB) hb)
      clear HO213 HO216 HO219 HO223 HO226 HO229 HO234 HO237 HO240 HO245 HO248 HO251 HO257 HO260 HO263 BK206 BK207 BK241 BK252 HB
      have HO213:=n0_
      have HO216:=n1_
      have HO219:=n2_
      have HO223:=n3_
      have HO226:=n4_
      have HO229:=n5_
      have HO234:=n6_
      have HO237:=n7_
      have HO240:=n8_
      have HO245:=n9_
      have HO248:=n10_
      have HO251:=n11_
      have HO257:=n12_
      have HO260:=n13_
      have HO263:=n14_
      have BK206:=n15_
      have BK207:=n16_
      have BK241:=n17_
      have BK252:=n18_
      have HB:=n19_
      clear n0_ n1_ n2_ n3_ n4_ n5_ n6_ n7_ n8_ n9_ n10_ n11_ n12_ n13_ n14_ n15_ n16_ n17_ n18_ n19_ hb
      skip
      skip
      skip
      refine hK.out _ _ ⟨(kC_ BK241.out 0).trans rfl,(kC_ BK241.out 1).trans rfl,(kC_ BK241.out 2).trans rfl,(kC_ BK241.out 3).trans rfl,(kC_ BK206.out 0).trans rfl,(kC_ BK206.out 1).trans rfl,(kC_ BK206.out 2).trans rfl,(kC_ BK206.out 3).trans rfl⟩ (fun hHeld=>?_)
      clear hK K
      refine norm_ (a':=?_) ?_ ?_
      rotate_left
      ·show Act.put _ (some 38) _ = _
       simp only [Act.put,sI_,sZ_,sS_,i64_w,i32_w]
       rfl
      refine pure_ (i:=4) (N:=some 39) (v:=?_) (a':=?_) #[true,true,true,true,true] rfl rfl (by kernel_rfl) (fun _ _ _ h=>h) (Or.inl ⟨by rfl,?_⟩) ?_ ?_
      rotate_left
      ·intro w'
       go_simp
       with_reducible rfl
      rotate_left
      ·simp only [Act.put,sI_,sZ_,sS_,i64_w,i32_w]
       rfl
      refine done_ (by kernel_rfl) ?_
      try go_wp2
      have n0_:=aM_ (rD_ HO213.out)
      have n1_:=aM_ (rD_ HO216.out)
      have n2_:=aM_ (Kd.S_drew HO219.out)
      have n3_:=aM_ (rD_ HO223.out)
      have n4_:=aM_ (rD_ HO226.out)
      have n5_:=aM_ (Kd.S_drew HO229.out)
      have n6_:=aM_ (rD_ HO234.out)
      have n7_:=aM_ (rD_ HO237.out)
      have n8_:=aM_ (Kd.S_drew HO240.out)
      have n9_:=aM_ (rD_ HO245.out)
      have n10_:=aM_ (rD_ HO248.out)
      have n11_:=aM_ (Kd.S_drew HO251.out)
      have n12_:=aM_ (rD_ HO257.out)
      have n13_:=aM_ (rD_ HO260.out)
      have n14_:=aM_ (Kd.S_drew HO263.out)
      have n15_:=aM_ (kD_ BK206.out)
      have n16_:=aM_ (kD_ BK207.out)
      have n17_:=aM_ (kD_ BK241.out)
      have n18_:=aM_ (kD_ BK252.out)
      have n19_:=aM_ (bD_ HB.out)
      clear HO213 HO216 HO219 HO223 HO226 HO229 HO234 HO237 HO240 HO245 HO248 HO251 HO257 HO260 HO263 BK206 BK207 BK241 BK252 HB
      have HO213:=n0_
      have HO216:=n1_
      have HO219:=n2_
      have HO223:=n3_
      have HO226:=n4_
      have HO229:=n5_
      have HO234:=n6_
      have HO237:=n7_
      have HO240:=n8_
      have HO245:=n9_
      have HO248:=n10_
      have HO251:=n11_
      have HO257:=n12_
      have HO260:=n13_
      have HO263:=n14_
      have BK206:=n15_
      have BK207:=n16_
      have BK241:=n17_
      have BK252:=n18_
      have HB:=n19_
      clear n0_ n1_ n2_ n3_ n4_ n5_ n6_ n7_ n8_ n9_ n10_ n11_ n12_ n13_ n14_ n15_ n16_ n17_ n18_ n19_
      refine start_ (n:=5) (S:=fun w'=>w'.cell? ⟨gb252,0,none⟩ = some (.string t242) ∧ w'.cell? ⟨gb252,1,none⟩ = some (.slice Ao65 t243.length co65) ∧ w'.cell? ⟨gb252,2,none⟩ = some (.slice Ao66 t246.length co66) ∧ w'.cell? ⟨gb252,3,none⟩ = some (.slice Ao67 t249.length co67) ∧ w'.cell? ⟨gb207,0,none⟩ = some (.string a1_0) ∧ w'.cell? ⟨gb207,1,none⟩ = some (.slice A1_1 l1_1.length c1_1) ∧ w'.cell? ⟨gb207,2,none⟩ = some (.slice A1_2 l1_2.length c1_2) ∧ w'.cell? ⟨gb207,3,none⟩ = some (.slice A1_3 l1_3.length c1_3)) (ds:=[]) #[false,false,false,false,false] (by kernel_rfl) rfl rfl ⟨(kC_ BK252.out 0).trans rfl,(kC_ BK252.out 1).trans rfl,(kC_ BK252.out 2).trans rfl,(kC_ BK252.out 3).trans rfl,(kC_ BK207.out 0).trans rfl,(kC_ BK207.out 1).trans rfl,(kC_ BK207.out 2).trans rfl,(kC_ BK207.out 3).trans rfl⟩ (fun hHeld=>?_)
      generalize w75.drew = w76 at HO213 HO216 HO219 HO223 HO226 HO229 HO234 HO237 HO240 HO245 HO248 HO251 HO257 HO260 HO263 BK206 BK207 BK241 BK252 HB hHeld ⊢
      refine take_ (i:=0) (N:=some 40) (v:=?_) (a':=?_) #[true,false,false,false,false] rfl rfl (by kernel_rfl) (fun _ _ _ h=>h) (Or.inl ⟨by rfl,?_⟩) hHeld ?_ ?_
      rotate_left
      ·rintro w' ⟨s0,s1,s2,s3,s4,s5,s6,s7⟩
       go_simp
       with_reducible rfl
      rotate_left
      ·simp only [Act.put,sI_,sZ_,sS_,i64_w,i32_w]
       rfl
      refine take_ (i:=1) (N:=some 41) (v:=?_) (a':=?_) #[true,true,false,false,false] rfl rfl (by kernel_rfl) (fun _ _ _ h=>h) (Or.inl ⟨by rfl,?_⟩) hHeld ?_ ?_
      rotate_left
      ·rintro w' ⟨s0,s1,s2,s3,s4,s5,s6,s7⟩
       go_simp
       with_reducible rfl
      rotate_left
      ·simp only [Act.put,sI_,sZ_,sS_,i64_w,i32_w]
       rfl
      refine one_ (i:=2) (N:=some 42) #[true,true,true,false,false] rfl rfl (by kernel_rfl) (by decide) (fun K hK=>?_)
      refine goes_ Try.func63 (by kernel_rfl) rfl #[.agg #[.string a1_0,.slice A1_1 l1_1.length c1_1,.slice A1_2 l1_2.length c1_2,.slice A1_3 l1_3.length c1_3]] (by rfl) rfl rfl (by (try simp only [mA_,mC_,mN_]);first | done | rfl | (simp only [lD_,lT_];rfl)) ?_
      with_reducible refine (laws_toDef.calls k a1_0 _ _ l1_1 _ _ l1_2 _ _ l1_3 t265 t266 t269 t272 _ ?side1 ?side2 ?side3 ?side4 ?side5 ?side6 A29.out).mono ?_
      (case side1=>repeat (first | exact (Kd.C_below HR1_1.out HB.out) | (with_reducible refine cA_ ?_ _) | (with_reducible refine cN_ ?_ _) | (with_reducible refine cD_ ?_)))
      (case side2=>exact HC1_1.out)
      (case side3=>repeat (first | exact (Kd.C_below HR1_2.out HB.out) | (with_reducible refine cA_ ?_ _) | (with_reducible refine cN_ ?_ _) | (with_reducible refine cD_ ?_)))
      (case side4=>exact HC1_2.out)
      (case side5=>repeat (first | exact (Kd.C_below HR1_3.out HB.out) | (with_reducible refine cA_ ?_ _) | (with_reducible refine cN_ ?_ _) | (with_reducible refine cD_ ?_)))
      (case side6=>exact HC1_3.out)
      rintro e w77 ⟨v267,v270,v273,rfl,ho0,ho1,ho2,hb⟩
      refine ⟨_,rfl,?_⟩
      have n0_:=aM_ (Kd.R_elder' (by exact rZ_ HO213) (Kd.R_base ho0) hb)
      have n1_:=aM_ (Kd.R_elder' (by exact rZ_ HO216) (Kd.R_base ho1) hb)
      have n2_:=aM_ (Kd.S_mono (Kd.S_told (Kd.S_told (Kd.S_old (by (with_reducible repeat (first | apply Kd.S_alloc | apply Kd.S_drewN | apply Kd.S_drew));exact HO219.out) hb) (Kd.R_base ho1)) (Kd.S_base ho2)) (fun _ h_=>h_.1))
      have n3_:=aM_ (Kd.R_elder' (by exact rZ_ HO223) (Kd.R_base ho0) hb)
      have n4_:=aM_ (Kd.R_elder' (by exact rZ_ HO226) (Kd.R_base ho1) hb)
      have n5_:=aM_ (Kd.S_mono (Kd.S_told (Kd.S_told (Kd.S_old (by (with_reducible repeat (first | apply Kd.S_alloc | apply Kd.S_drewN | apply Kd.S_drew));exact HO229.out) hb) (Kd.R_base ho1)) (Kd.S_base ho2)) (fun _ h_=>h_.1))
      have n6_:=aM_ (Kd.R_elder' (by exact rZ_ HO234) (Kd.R_base ho0) hb)
      have n7_:=aM_ (Kd.R_elder' (by exact rZ_ HO237) (Kd.R_base ho1) hb)
      have n8_:=aM_ (Kd.S_mono (Kd.S_told (Kd.S_told (Kd.S_old (by (with_reducible repeat (first | apply Kd.S_alloc | apply Kd.S_drewN | apply Kd.S_drew));exact HO240.out) hb) (Kd.R_base ho1)) (Kd.S_base ho2)) (fun _ h_=>h_.1))
      have n9_:=aM_ (Kd.R_elder' (by exact rZ_ HO245) (Kd.R_base ho0) hb)
      have n10_:=aM_ (Kd.R_elder' (by exact rZ_ HO248) (Kd.R_base ho1) hb)
      have n11_:=aM_ (Kd.S_mono (Kd.S_told (Kd.S_told (Kd.S_old (by (with_reducible repeat (first | apply Kd.S_alloc | apply Kd.S_drewN | apply Kd.S_drew));exact HO251.out) hb) (Kd.R_base ho1)) (Kd.S_base ho2)) (fun _ h_=>h_.1))
      have n12_:=aM_ (Kd.R_elder' (by exact rZ_ HO257) (Kd.R_base ho0) hb)
      have n13_:=aM_ (Kd.R_elder' (by exact rZ_ HO260) (Kd.R_base ho1) hb)
      have n14_:=aM_ (Kd.S_mono (Kd.S_told (Kd.S_told (Kd.S_old (by (with_reducible repeat (first | apply Kd.S_alloc | apply Kd.S_drewN | apply Kd.S_drew));exact HO263.out) hb) (Kd.R_base ho1)) (Kd.S_base ho2)) (fun _ h_=>h_.1))
      have n15_:=aM_ (Kd.R_lower (Kd.R_new' (Kd.R_new' (Kd.R_new' (Kd.R_new' (Kd.R_new' ho0 (Kd.R_lt (by exact rZ_ HO213))) (Kd.R_lt (by exact rZ_ HO223))) (Kd.R_lt (by exact rZ_ HO234))) (Kd.R_lt (by exact rZ_ HO245))) (Kd.R_lt (by exact rZ_ HO257))) (bS_ (by exact bZ_ HB)))
      have n16_:=aM_ (Kd.R_lower (Kd.R_new' (Kd.R_new' (Kd.R_new' (Kd.R_new' (Kd.R_new' ho1 (Kd.R_lt (by exact rZ_ HO216))) (Kd.R_lt (by exact rZ_ HO226))) (Kd.R_lt (by exact rZ_ HO237))) (Kd.R_lt (by exact rZ_ HO248))) (Kd.R_lt (by exact rZ_ HO260))) (bS_ (by exact bZ_ HB)))
      have n17_:=aM_ (Kd.S_lower (Kd.S_new' (Kd.S_new' (Kd.S_new' (Kd.S_new' (Kd.S_new' (Kd.S_new' (Kd.S_new' (Kd.S_new' (Kd.S_new' (Kd.S_new' ho2 (Kd.R_lt (by exact rZ_ HO216))) (Kd.S_lt (by (with_reducible repeat (first | apply Kd.S_alloc | apply Kd.S_drewN | apply Kd.S_drew));exact HO219.out))) (Kd.R_lt (by exact rZ_ HO226))) (Kd.S_lt (by (with_reducible repeat (first | apply Kd.S_alloc | apply Kd.S_drewN | apply Kd.S_drew));exact HO229.out))) (Kd.R_lt (by exact rZ_ HO237))) (Kd.S_lt (by (with_reducible repeat (first | apply Kd.S_alloc | apply Kd.S_drewN | apply Kd.S_drew));exact HO240.out))) (Kd.R_lt (by exact rZ_ HO248))) (Kd.S_lt (by (with_reducible repeat (first | apply Kd.S_alloc | apply Kd.S_drewN | apply Kd.S_drew));exact HO251.out))) (Kd.R_lt (by exact rZ_ HO260))) (Kd.S_lt (by (with_reducible repeat (first | apply Kd.S_alloc | apply Kd.S_drewN | apply Kd.S_drew));exact HO263.out))) (bS_ (by exact bZ_ HB)))
      have n18_:=aM_ (blk_below (g:=gb206) (o:=.cells #[.string a0_0,.slice A0_1 l0_1.length c0_1,.slice A0_2 l0_2.length c0_2,.slice A0_3 l0_3.length c0_3] 80 (0,0)) (by exact kZ_ BK206) hb)
      have n19_:=aM_ (blk_below (g:=gb207) (o:=.cells #[.string a1_0,.slice A1_1 l1_1.length c1_1,.slice A1_2 l1_2.length c1_2,.slice A1_3 l1_3.length c1_3] 80 (0,0)) (by exact kZ_ BK207) hb)
      have n20_:=aM_ (blk_below (g:=gb241) (o:=.cells #[.string t231,.slice Ao55 t232.length co55,.slice Ao56 t235.length co56,.slice Ao57 t238.length co57] 87 (0,0)) (by exact kZ_ BK241) hb)
      have n21_:=aM_ (blk_below (g:=gb252) (o:=.cells #[.string t242,.slice Ao65 t243.length co65,.slice Ao66 t246.length co66,.slice Ao67 t249.length co67] 87 (0,0)) (by exact kZ_ BK252) hb)
      have n22_:=aM_ (bT_ (by exact bZ_ HB) hb)
      clear HO213 HO216 HO219 HO223 HO226 HO229 HO234 HO237 HO240 HO245 HO248 HO251 HO257 HO260 HO263 BK206 BK207 BK241 BK252 HB
      have HO213:=n0_
      have HO216:=n1_
      have HO219:=n2_
      have HO223:=n3_
      have HO226:=n4_
      have HO229:=n5_
      have HO234:=n6_
      have HO237:=n7_
      have HO240:=n8_
      have HO245:=n9_
      have HO248:=n10_
      have HO251:=n11_
      have HO257:=n12_
      have HO260:=n13_
      have HO263:=n14_
      have HO268:=n15_
      have HO271:=n16_
      have HO274:=n17_
      have BK206:=n18_
      have BK207:=n19_
      have BK241:=n20_
      have BK252:=n21_
      have HB:=n22_
      clear n0_ n1_ n2_ n3_ n4_ n5_ n6_ n7_ n8_ n9_ n10_ n11_ n12_ n13_ n14_ n15_ n16_ n17_ n18_ n19_ n20_ n21_ n22_ hb
      skip
      skip
      skip
      clear ho0 ho1 ho2
      obtain ⟨Ao78,co78,eo78⟩:=Kd.R_slice HO268.out
      (first | subst eo78 | (injection eo78 with f1_ f2_ f3_;have f4_:=f1_.symm;have f5_:=f3_.symm;clear f1_ f2_ f3_;subst f4_;subst f5_))
      obtain ⟨Ao79,co79,eo79⟩:=Kd.R_slice HO271.out
      (first | subst eo79 | (injection eo79 with f1_ f2_ f3_;have f4_:=f1_.symm;have f5_:=f3_.symm;clear f1_ f2_ f3_;subst f4_;subst f5_))
      obtain ⟨Ao80,co80,eo80⟩:=Kd.S_slice HO274.out
      (first | subst eo80 | (injection eo80 with f1_ f2_ f3_;have f4_:=f1_.symm;have f5_:=f3_.symm;clear f1_ f2_ f3_;subst f4_;subst f5_))
      refine hK.out _ _ ⟨(kC_ BK252.out 0).trans rfl,(kC_ BK252.out 1).trans rfl,(kC_ BK252.out 2).trans rfl,(kC_ BK252.out 3).trans rfl,(kC_ BK207.out 0).trans rfl,(kC_ BK207.out 1).trans rfl,(kC_ BK207.out 2).trans rfl,(kC_ BK207.out 3).trans rfl⟩ (fun hHeld=>?_)
      clear hK K
      refine norm_ (a':=?_) ?_ ?_
      rotate_left
      ·show Act.put _ (some 42) _ = _
       simp only [Act.put,sI_,sZ_,sS_,i64_w,i32_w]
       rfl
      refine one_ (i:=3) (N:=some 43) #[true,true,true,true,false] rfl rfl (by kernel_rfl) (by decide) (fun K hK=>?_)
      refine goes_ Try.func65 (by kernel_rfl) rfl #[.agg #[.string t242,.slice Ao65 t243.length co65,.slice Ao66 t246.length co66,.slice Ao67 t249.length co67],.agg #[.string t265,.slice Ao78 t266.length co78,.slice Ao79 t269.length co79,.slice Ao80 t272.length co80]] (by rfl) rfl rfl (by (try simp only [mA_,mC_,mN_]);first | done | rfl | (simp only [lD_,lT_];rfl)) ?_
      with_reducible refine (laws_eqDef.calls k t242 _ _ t243 _ _ t246 _ _ t249 t265 _ _ t266 _ _ t269 _ _ t272 true _ ?side1 ?side2 ?side3 ?side4 ?side5 ?side6 ?side7 ?side8 ?side9 ?side10 ?side11 ?side12 A30.out).mono ?_
      (case side1=>repeat (first | exact (Kd.R_reads' HO245.out).2.2 | (with_reducible refine cA_ ?_ _) | (with_reducible refine cN_ ?_ _) | (with_reducible refine cD_ ?_)))
      (case side2=>exact (Kd.R_reads' HO245.out).2.1)
      (case side3=>repeat (first | exact (Kd.R_reads' HO248.out).2.2 | (with_reducible refine cA_ ?_ _) | (with_reducible refine cN_ ?_ _) | (with_reducible refine cD_ ?_)))
      (case side4=>exact (Kd.R_reads' HO248.out).2.1)
      (case side5=>repeat (first | exact (Kd.S_reads' HO251.out).2.2 | (with_reducible refine cA_ ?_ _) | (with_reducible refine cN_ ?_ _) | (with_reducible refine cD_ ?_)))
      (case side6=>exact (Kd.S_reads' HO251.out).2.1)
      (case side7=>repeat (first | exact (Kd.R_reads' HO268.out).2.2 | (with_reducible refine cA_ ?_ _) | (with_reducible refine cN_ ?_ _) | (with_reducible refine cD_ ?_)))
      (case side8=>exact (Kd.R_reads' HO268.out).2.1)
      (case side9=>repeat (first | exact (Kd.R_reads' HO271.out).2.2 | (with_reducible refine cA_ ?_ _) | (with_reducible refine cN_ ?_ _) | (with_reducible refine cD_ ?_)))
      (case side10=>exact (Kd.R_reads' HO271.out).2.1)
      (case side11=>repeat (first | exact (Kd.S_reads' HO274.out).2.2 | (with_reducible refine cA_ ?_ _) | (with_reducible refine cN_ ?_ _) | (with_reducible refine cD_ ?_)))
      (case side12=>exact (Kd.S_reads' HO274.out).2.1)
      rintro e w81 ⟨rfl,hb⟩
      refine ⟨_,rfl,?_⟩
      have n0_:=aM_ (Kd.R_below (by exact rZ_ HO213) hb)
      have n1_:=aM_ (Kd.R_below (by exact rZ_ HO216) hb)
      have n2_:=aM_ (Kd.S_below (by (with_reducible repeat (first | apply Kd.S_alloc | apply Kd.S_drewN | apply Kd.S_drew));exact HO219.out) hb)
      have n3_:=aM_ (Kd.R_below (by exact rZ_ HO223) hb)
      have n4_:=aM_ (Kd.R_below (by exact rZ_ HO226) hb)
      have n5_:=aM_ (Kd.S_below (by (with_reducible repeat (first | apply Kd.S_alloc | apply Kd.S_drewN | apply Kd.S_drew));exact HO229.out) hb)
      have n6_:=aM_ (Kd.R_below (by exact rZ_ HO234) hb)
      have n7_:=aM_ (Kd.R_below (by exact rZ_ HO237) hb)
      have n8_:=aM_ (Kd.S_below (by (with_reducible repeat (first | apply Kd.S_alloc | apply Kd.S_drewN | apply Kd.S_drew));exact HO240.out) hb)
      have n9_:=aM_ (Kd.R_below (by exact rZ_ HO245) hb)
      have n10_:=aM_ (Kd.R_below (by exact rZ_ HO248) hb)
      have n11_:=aM_ (Kd.S_below (by (with_reducible repeat (first | apply Kd.S_alloc | apply Kd.S_drewN | apply Kd.S_drew));exact HO251.out) hb)
      have n12_:=aM_ (Kd.R_below (by exact rZ_ HO257) hb)
      have n13_:=aM_ (Kd.R_below (by exact rZ_ HO260) hb)
      have n14_:=aM_ (Kd.S_below (by (with_reducible repeat (first | apply Kd.S_alloc | apply Kd.S_drewN | apply Kd.S_drew));exact HO263.out) hb)
      have n15_:=aM_ (Kd.R_below (by exact rZ_ HO268) hb)
      have n16_:=aM_ (Kd.R_below (by exact rZ_ HO271) hb)
      have n17_:=aM_ (Kd.S_below (by (with_reducible repeat (first | apply Kd.S_alloc | apply Kd.S_drewN | apply Kd.S_drew));exact HO274.out) hb)
      have n18_:=aM_ (blk_below (g:=gb206) (o:=.cells #[.string a0_0,.slice A0_1 l0_1.length c0_1,.slice A0_2 l0_2.length c0_2,.slice A0_3 l0_3.length c0_3] 80 (0,0)) (by exact kZ_ BK206) hb)
      have n19_:=aM_ (blk_below (g:=gb207) (o:=.cells #[.string a1_0,.slice A1_1 l1_1.length c1_1,.slice A1_2 l1_2.length c1_2,.slice A1_3 l1_3.length c1_3] 80 (0,0)) (by exact kZ_ BK207) hb)
      have n20_:=aM_ (blk_below (g:=gb241) (o:=.cells #[.string t231,.slice Ao55 t232.length co55,.slice Ao56 t235.length co56,.slice Ao57 t238.length co57] 87 (0,0)) (by exact kZ_ BK241) hb)
      have n21_:=aM_ (blk_below (g:=gb252) (o:=.cells #[.string t242,.slice Ao65 t243.length co65,.slice Ao66 t246.length co66,.slice Ao67 t249.length co67] 87 (0,0)) (by exact kZ_ BK252) hb)
      have n22_:=aM_ (bT_ (by exact bZ_ HB) hb)
      clear HO213 HO216 HO219 HO223 HO226 HO229 HO234 HO237 HO240 HO245 HO248 HO251 HO257 HO260 HO263 HO268 HO271 HO274 BK206 BK207 BK241 BK252 HB
      have HO213:=n0_
      have HO216:=n1_
      have HO219:=n2_
      have HO223:=n3_
      have HO226:=n4_
      have HO229:=n5_
      have HO234:=n6_
      have HO237:=n7_
      have HO240:=n8_
      have HO245:=n9_
      have HO248:=n10_
      have HO251:=n11_
      have HO257:=n12_
      have HO260:=n13_
      have HO263:=n14_
      have HO268:=n15_
      have HO271:=n16_
      have HO274:=n17_
      have BK206:=n18_
      have BK207:=n19_
      have BK241:=n20_
      have BK252:=n21_
      have HB:=n22_
      clear n0_ n1_ n2_ n3_ n4_ n5_ n6_ n7_ n8_ n9_ n10_ n11_ n12_ n13_ n14_ n15_ n16_ n17_ n18_ n19_ n20_ n21_ n22_ hb
      skip
      skip
      skip
      refine hK.out _ _ ⟨(kC_ BK252.out 0).trans rfl,(kC_ BK252.out 1).trans rfl,(kC_ BK252.out 2).trans rfl,(kC_ BK252.out 3).trans rfl,(kC_ BK207.out 0).trans rfl,(kC_ BK207.out 1).trans rfl,(kC_ BK207.out 2).trans rfl,(kC_ BK207.out 3).trans rfl⟩ (fun hHeld=>?_)
      clear hK K
      refine norm_ (a':=?_) ?_ ?_
      rotate_left
      ·show Act.put _ (some 43) _ = _
       simp only [Act.put,sI_,sZ_,sS_,i64_w,i32_w]
       rfl
      refine pure_ (i:=4) (N:=some 44) (v:=?_) (a':=?_) #[true,true,true,true,true] rfl rfl (by kernel_rfl) (fun _ _ _ h=>h) (Or.inl ⟨by rfl,?_⟩) ?_ ?_
      rotate_left
      ·intro w'
       go_simp
       with_reducible rfl
      rotate_left
      ·simp only [Act.put,sI_,sZ_,sS_,i64_w,i32_w]
       rfl
      refine done_ (by kernel_rfl) ?_
      try go_wp2
      go_ret
      exact ⟨by first | rfl | (simp [errW_none,errW_some] <;> rfl) | (simp [*, errW_none,errW_some] <;> rfl),by exact bZ_ HB⟩
     ·replace c31:=Bool.eq_false_iff.mpr c31
      subst c31
      have H1 : (some false) = some r:=by rw [if_neg (show ¬ (false = true) by decide)] at H;exact H
      clear H
      have H:=H1
      clear H1
      exact absurd (H.trans (congrArg some hr_.out)) (by simp)
    ·replace c28:=Bool.eq_false_iff.mpr c28
     subst c28
     have H1 : (some false) = some r:=by rw [if_neg (show ¬ (false = true) by decide)] at H;exact H
     clear H
     have H:=H1
     clear H1
     exact absurd (H.trans (congrArg some hr_.out)) (by simp)
end Go.Proofs.Ytllgmgpfdnofmaa.PFnExactSameDef
