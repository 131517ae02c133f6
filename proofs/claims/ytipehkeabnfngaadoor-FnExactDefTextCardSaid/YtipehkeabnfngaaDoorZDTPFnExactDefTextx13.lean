import Derived.Test.YtipehkeabnfngaaDoorZDTPFnExactDefTextx0
namespace Go.Proofs.YtipehkeabnfngaaDoor.PFnExactDefText
open Go.RowKit Go.Proofs.YtipehkeabnfngaaDoorW.PrintWords Go.Proofs.YtipehkeabnfngaaDoorW.PrintLast Go.Proofs.YtipehkeabnfngaaDoorW.PrintMore Go.Proofs.YtipehkeabnfngaaDoor.Xtra
attribute [local go_sem] max2_int min2_int max_two min_two max_three min_three max_four min_four str_leq str_gtr str_geq setCell_drewN cell_set2 cell_set3   -- for this text's walks alone
set_option linter.unusedVariables false
set_option linter.unusedSimpArgs false
def laws_szCol.f (a0_0 : ByteArray) (a0_1 : Int) (a0_2 : Bool) (a1 : Int) : Option (Int):=if (wrap64 (a1 - (a0_0.size : Int))) < 0 then (some (-1)) else (some (wrap64 (a1 - (a0_0.size : Int))))
set_option maxHeartbeats 8000000 in
set_option maxRecDepth 100000 in
theorem laws_szCol.calls (a0_0 : ByteArray) (a0_1 : Int) (a0_2 : Bool) (a1 : Int) (r : Int) (w : World) (h : laws_szCol.f a0_0 a0_1 a0_2 a1 = some r) :
  Calls Tryd.prog 112 #[.agg #[.string a0_0,.int .i64 a0_1,.bool a0_2],.int .i64 a1] w fun e w'=>e = .returned (.int .i64 r) ∧ Below w.heap.size w w':=by
 have hu131:=Tryd.underlying131
 have HB:=aM_ (Below.refl w.heap.size w)
 have H : (if (wrap64 (a1 - (a0_0.size : Int))) < 0 then (some (-1)) else (some (wrap64 (a1 - (a0_0.size : Int))))) = some r:=h
 clear h
 by_cases c3 : (wrap64 (a1 - (a0_0.size : Int))) < 0
 ·rw [if_pos c3] at H
  have c3b0 : decide ((wrap64 (a1 - (a0_0.size : Int))) < 0) = true:=decide_eq_true c3
  clear c3
  obtain rfl:=Option.some.inj H
  go_enter Tryd.func112,Tryd.ntmps112
  go_wp2_with (first | ((with_reducible refine gate_dst (N:=2) rfl ?_);refine box_event ?hg (N:=2) ?hd (cs:=#[.string a0_0,.int .i64 a0_1,.bool a0_2]) (t:=131) ?hr ?_;(case hd=>rfl);(case hg=>rfl);(case hr=>first | (go_simp;done) | (go_simp;rfl));intro gb253 hg w4 hbox hb;have n0_:=aM_ (bT_ (by exact bZ_ HB) hb);have n1_:=aM_ (hbox);have n2_:=aM_ ((by rw [hg];exact (bS_ (by exact bZ_ HB)) : w.heap.size ≤ gb253));have n3_:=aM_ ((by rw [hg];exact (bS_ (by exact bZ_ HB)) : w.heap.size ≤ gb253));clear HB;have HB:=n0_;have BK253:=n1_;have GW253:=n2_;have GE253:=n3_;clear n0_ n1_ n2_ n3_;clear hb hbox hg;have hcz5_0 : w4.cell? ⟨gb253,0,none⟩ = some (.string a0_0):=(kC_ BK253.out 0).trans rfl;have hcz5_1 : w4.cell? ⟨gb253,1,none⟩ = some (.int .i64 a0_1):=(kC_ BK253.out 1).trans rfl;have hcz5_2 : w4.cell? ⟨gb253,2,none⟩ = some (.bool a0_2):=(kC_ BK253.out 2).trans rfl;have hfz5_0:=kF_ BK253.out 0;have hfz5_1:=kF_ BK253.out 1;have hfz5_2:=kF_ BK253.out 2))
  go_ret
  exact ⟨by first | rfl | (simp [errW_none,errW_some] <;> rfl) | (simp [*, errW_none,errW_some] <;> rfl),by exact bZ_ HB⟩
 ·rw [if_neg c3] at H
  have c3b0 : decide ((wrap64 (a1 - (a0_0.size : Int))) < 0) = false:=decide_eq_false c3
  clear c3
  obtain rfl:=Option.some.inj H
  go_enter Tryd.func112,Tryd.ntmps112
  go_wp2_with (first | ((with_reducible refine gate_dst (N:=2) rfl ?_);refine box_event ?hg (N:=2) ?hd (cs:=#[.string a0_0,.int .i64 a0_1,.bool a0_2]) (t:=131) ?hr ?_;(case hd=>rfl);(case hg=>rfl);(case hr=>first | (go_simp;done) | (go_simp;rfl));intro gb253 hg w6 hbox hb;have n0_:=aM_ (bT_ (by exact bZ_ HB) hb);have n1_:=aM_ (hbox);have n2_:=aM_ ((by rw [hg];exact (bS_ (by exact bZ_ HB)) : w.heap.size ≤ gb253));have n3_:=aM_ ((by rw [hg];exact (bS_ (by exact bZ_ HB)) : w.heap.size ≤ gb253));clear HB;have HB:=n0_;have BK253:=n1_;have GW253:=n2_;have GE253:=n3_;clear n0_ n1_ n2_ n3_;clear hb hbox hg;have hcz7_0 : w6.cell? ⟨gb253,0,none⟩ = some (.string a0_0):=(kC_ BK253.out 0).trans rfl;have hcz7_1 : w6.cell? ⟨gb253,1,none⟩ = some (.int .i64 a0_1):=(kC_ BK253.out 1).trans rfl;have hcz7_2 : w6.cell? ⟨gb253,2,none⟩ = some (.bool a0_2):=(kC_ BK253.out 2).trans rfl;have hfz7_0:=kF_ BK253.out 0;have hfz7_1:=kF_ BK253.out 1;have hfz7_2:=kF_ BK253.out 2))
  go_ret
  exact ⟨by first | rfl | (simp [errW_none,errW_some] <;> rfl) | (simp [*, errW_none,errW_some] <;> rfl),by exact bZ_ HB⟩
def laws_szColS.l0 : Nat → List (S131) → Int → Int → Option (Int)
 | 0,_,_,_=>none
 | k + 1,x0,x1,x5=>if x5 < (x0.length : Int) then (if 0 ≤ x5 then ((laws_szCol.f ((rd_T131 x0 x5).f0) ((rd_T131 x0 x5).f1) ((rd_T131 x0 x5).f2) x1).bind fun t255=>(if t255 < 0 then (some (-1)) else (laws_szColS.l0 k x0 t255 (wrap64 (x5 + 1))))) else (none)) else (some x1)
def laws_szColS.f (k : Nat) (l0 : List (S131)) (a1 : Int) : Option (Int):=if (wrap64 (a1 - (l0.length : Int))) < 0 then (some (-1)) else (laws_szColS.l0 k l0 (wrap64 (a1 - (l0.length : Int))) 0)
theorem laws_szColS.mono_l : ∀ k,(∀ y0 y1 y2,LeO (laws_szColS.l0 k y0 y1 y2) (laws_szColS.l0 (k + 1) y0 y1 y2))
 | 0=>fun _ _ _ r h=>by simp [laws_szColS.l0] at h
 | k + 1=>by
  have ih0:=laws_szColS.mono_l k
  ·intro y0 y1 y2
   unfold laws_szColS.l0
   repeat' first
   | (with_reducible exact ih0 _ _ _)
   | (with_reducible exact LeO.refl _)
   | (with_reducible exact LeO.none _)
   | (with_reducible refine LeO.ite ?_ ?_)
   | (with_reducible refine LeO.bind ?_ (fun _=>?_))
   | exact ih0 _ _ _
   | exact LeO.none _
   | refine LeO.ite ?_ ?_
   | refine LeO.bind ?_ (fun _=>?_)
theorem laws_szColS.mono : ∀ a0 a1 k,LeO (laws_szColS.f k a0 a1) (laws_szColS.f (k + 1) a0 a1):=by
 intro a0 a1 k
 have ih0:=laws_szColS.mono_l k
 unfold laws_szColS.f
 repeat' first
   | (with_reducible exact ih0 _ _ _)
   | (with_reducible exact LeO.refl _)
   | (with_reducible exact LeO.none _)
   | (with_reducible refine LeO.ite ?_ ?_)
   | (with_reducible refine LeO.bind ?_ (fun _=>?_))
   | exact ih0 _ _ _
   | exact LeO.none _
   | refine LeO.ite ?_ ?_
   | refine LeO.bind ?_ (fun _=>?_)
set_option maxHeartbeats 8000000 in
set_option maxRecDepth 100000 in
theorem laws_szColS.calls (k : Nat) (A0 : Option Addr) (c0 : Nat) (l0 : List (S131)) (a1 : Int) (r : Int) (w : World) (hr0 : Kd.C k131 w A0 l0.length l0) (hc0 : l0.length ≤ c0) (h : laws_szColS.f k l0 a1 = some r) :
  Calls Tryd.prog 70 #[.slice A0 l0.length c0,.int .i64 a1] w fun e w'=>e = .returned (.int .i64 r) ∧ Below w.heap.size w w':=by
 have hu131:=Tryd.underlying131
 have HR0:=aM_ hr0
 have HC0:=aM_ hc0
 clear hr0 hc0
 have HB:=aM_ (Below.refl w.heap.size w)
 have H : (if (wrap64 (a1 - (l0.length : Int))) < 0 then (some (-1)) else (laws_szColS.l0 k l0 (wrap64 (a1 - (l0.length : Int))) 0)) = some r:=h
 clear h
 by_cases c3 : (wrap64 (a1 - (l0.length : Int))) < 0
 ·rw [if_pos c3] at H
  have c3b0 : decide ((wrap64 (a1 - (l0.length : Int))) < 0) = true:=decide_eq_true c3
  clear c3
  obtain rfl:=Option.some.inj H
  go_enter Tryd.func70,Tryd.ntmps70
  go_wp2
  go_ret
  exact ⟨by first | rfl | (simp [errW_none,errW_some] <;> rfl) | (simp [*, errW_none,errW_some] <;> rfl),by exact bZ_ HB⟩
 ·rw [if_neg c3] at H
  have c3b0 : decide ((wrap64 (a1 - (l0.length : Int))) < 0) = false:=decide_eq_false c3
  clear c3
  have H':=aM_ H
  clear H
  go_enter Tryd.func70,Tryd.ntmps70
  go_wp2
  (try simp only [Act.put,sI_,sS_,sZ_])
  go_loopg [1,5] k (fun kq v1 v5 w'=>∃ (x1_1 : Int) (x5_1 : Int),v1 = .int .i64 x1_1 ∧ v5 = .int .i64 x5_1 ∧ Aside0 (laws_szColS.l0 kq l0 x1_1 x5_1 = some r) ∧ Aside0 (kq ≤ k) ∧ Aside0 (Below w.heap.size w w'))
  case atStart=>exact ⟨(wrap64 (a1 - (l0.length : Int))),(0),(by first | rfl | (simp;done) | (simp [*];done)),(by first | rfl | (simp;done) | (simp [*];done)),H', ⟨Nat.le_refl _⟩,⟨by exact bZ_ HB⟩⟩
  case round =>
   clear H'
   try clear p2
   try clear c3
   try clear c3b0
   obtain ⟨x1_1,x5_1,rfl,rfl,HA,HK1,HB⟩:=hrel
   cases gk with
   | zero=>exact absurd HA.out (by simp [laws_szColS.l0])
   | succ k1 =>
    have H:=HA.out
    clear HA
    simp only [laws_szColS.l0] at H
    by_cases c4 : x5_1 < (l0.length : Int)
    ·rw [if_pos c4] at H
     have c4b0 : decide (x5_1 < (l0.length : Int)) = true:=decide_eq_true c4
     clear c4
     by_cases c5 : 0 ≤ x5_1
     ·rw [if_pos c5] at H
      have c5b0 : decide (0 ≤ x5_1) = true:=decide_eq_true c5
      clear c5
      replace H:=oB_ H
      obtain ⟨t255,A60,H⟩:=H
      replace H : (if t255 < 0 then (some (-1)) else (laws_szColS.l0 k1 l0 t255 (wrap64 (x5_1 + 1)))) = some r:=H
      have A6:=aM_ A60
      clear A60
      by_cases c7 : t255 < 0
      ·rw [if_pos c7] at H
       have c7b0 : decide (t255 < 0) = true:=decide_eq_true c7
       clear c7
       obtain rfl:=Option.some.inj H
       have p254 : 0 ≤ (x5_1 : Int):=oT_ (by first | (with_reducible assumption) | assumption)
       have q254 : x5_1 < (l0.length : Int):=oT_ (by first | (with_reducible assumption) | assumption)
       obtain ⟨ad254,e254,hx254_0,hx254_1,hx254_2⟩:=at_T131 HR0.out x5_1 p254 q254
       cases e254
       replace hx254_0:=(HB.out.cell (wL_ w _ hx254_0)).trans hx254_0
       replace hx254_1:=(HB.out.cell (wL_ w _ hx254_1)).trans hx254_1
       replace hx254_2:=(HB.out.cell (wL_ w _ hx254_2)).trans hx254_2
       replace p254:=eq_true p254
       replace q254:=eq_true q254
       go_wp2_with (first | ((with_reducible refine gate_callee (f:=112) rfl ?_);refine goesL_ (some 23) rfl rfl Tryd.func112 (by kernel_rfl) rfl #[.agg #[.string ((rd_T131 l0 x5_1).f0),.int .i64 ((rd_T131 l0 x5_1).f1),.bool ((rd_T131 l0 x5_1).f2)],.int .i64 x1_1] rfl (by (try simp only [mA_,mC_,mN_]);first | done | rfl | (simp only [lD_,lT_];rfl)) ?_;(with_reducible refine (laws_szCol.calls ((rd_T131 l0 x5_1).f0) ((rd_T131 l0 x5_1).f1) ((rd_T131 l0 x5_1).f2) x1_1 t255 _ A6.out).mono ?_);rintro e w8 ⟨rfl,hb⟩;refine ⟨_,rfl,?_⟩;have n0_:=aM_ (bT_ (by exact bZ_ HB) hb);clear HB;have HB:=n0_;clear n0_;(try clear hb);(try clear hb2);(try clear hk);(try clear hi)))
       go_ret
       exact ⟨by first | rfl | (simp [errW_none,errW_some] <;> rfl) | (simp [*, errW_none,errW_some] <;> rfl),by exact bZ_ HB⟩
      ·rw [if_neg c7] at H
       have c7b0 : decide (t255 < 0) = false:=decide_eq_false c7
       clear c7
       have H':=aM_ H
       clear H
       have p254 : 0 ≤ (x5_1 : Int):=oT_ (by first | (with_reducible assumption) | assumption)
       have q254 : x5_1 < (l0.length : Int):=oT_ (by first | (with_reducible assumption) | assumption)
       obtain ⟨ad254,e254,hx254_0,hx254_1,hx254_2⟩:=at_T131 HR0.out x5_1 p254 q254
       cases e254
       replace hx254_0:=(HB.out.cell (wL_ w _ hx254_0)).trans hx254_0
       replace hx254_1:=(HB.out.cell (wL_ w _ hx254_1)).trans hx254_1
       replace hx254_2:=(HB.out.cell (wL_ w _ hx254_2)).trans hx254_2
       replace p254:=eq_true p254
       replace q254:=eq_true q254
       go_wp2_with (first | ((with_reducible refine gate_callee (f:=112) rfl ?_);refine goesL_ (some 23) rfl rfl Tryd.func112 (by kernel_rfl) rfl #[.agg #[.string ((rd_T131 l0 x5_1).f0),.int .i64 ((rd_T131 l0 x5_1).f1),.bool ((rd_T131 l0 x5_1).f2)],.int .i64 x1_1] rfl (by (try simp only [mA_,mC_,mN_]);first | done | rfl | (simp only [lD_,lT_];rfl)) ?_;(with_reducible refine (laws_szCol.calls ((rd_T131 l0 x5_1).f0) ((rd_T131 l0 x5_1).f1) ((rd_T131 l0 x5_1).f2) x1_1 t255 _ A6.out).mono ?_);rintro e w9 ⟨rfl,hb⟩;refine ⟨_,rfl,?_⟩;have n0_:=aM_ (bT_ (by exact bZ_ HB) hb);clear HB;have HB:=n0_;clear n0_;(try clear hb);(try clear hb2);(try clear hk);(try clear hi)))
       go_roundg k1
       case measure=>have:=HK1.out;omega
       case rel=>exact ⟨(t255),(wrap64 (x5_1 + 1)),(by first | rfl | (simp;done) | (simp [*];done)),(by first | rfl | (simp;done) | (simp [*];done)),H', ⟨by have:=HK1.out;omega⟩,⟨by exact bZ_ HB⟩⟩
     ·rw [if_neg c5] at H
      exact absurd H (by simp)
    ·rw [if_neg c4] at H
     have c4b0 : decide (x5_1 < (l0.length : Int)) = false:=decide_eq_false c4
     clear c4
     obtain rfl:=Option.some.inj H
     go_wp2
     go_ret
     exact ⟨by first | rfl | (simp [errW_none,errW_some] <;> rfl) | (simp [*, errW_none,errW_some] <;> rfl),by exact bZ_ HB⟩
def laws_szByS.f (l0 : List (S137)) (a1 : Int) : Option (Int):=if (wrap64 (a1 - (l0.length : Int))) < 0 then (some (-1)) else (some (wrap64 (a1 - (l0.length : Int))))
set_option maxHeartbeats 8000000 in
set_option maxRecDepth 100000 in
theorem laws_szByS.calls (A0 : Option Addr) (c0 : Nat) (l0 : List (S137)) (a1 : Int) (r : Int) (w : World) (hr0 : Kd.C k137 w A0 l0.length l0) (hc0 : l0.length ≤ c0) (h : laws_szByS.f l0 a1 = some r) :
  Calls Tryd.prog 71 #[.slice A0 l0.length c0,.int .i64 a1] w fun e w'=>e = .returned (.int .i64 r) ∧ Drawn0 w w':=by
 have HR0:=aM_ hr0
 have HC0:=aM_ hc0
 clear hr0 hc0
 have H : (if (wrap64 (a1 - (l0.length : Int))) < 0 then (some (-1)) else (some (wrap64 (a1 - (l0.length : Int))))) = some r:=h
 clear h
 by_cases c3 : (wrap64 (a1 - (l0.length : Int))) < 0
 ·rw [if_pos c3] at H
  have c3b0 : decide ((wrap64 (a1 - (l0.length : Int))) < 0) = true:=decide_eq_true c3
  clear c3
  obtain rfl:=Option.some.inj H
  go_enter Tryd.func71,Tryd.ntmps71
  go_wp2
  go_ret
  exact ⟨by first | rfl | (simp;done) | (simp [*];done),by repeat (first | exact Drawn0.refl _ | apply Drawn0.step)⟩
 ·rw [if_neg c3] at H
  have c3b0 : decide ((wrap64 (a1 - (l0.length : Int))) < 0) = false:=decide_eq_false c3
  clear c3
  obtain rfl:=Option.some.inj H
  go_enter Tryd.func71,Tryd.ntmps71
  go_wp2
  go_ret
  exact ⟨by first | rfl | (simp;done) | (simp [*];done),by repeat (first | exact Drawn0.refl _ | apply Drawn0.step)⟩
def laws_szIndex.f (a0_0 : ByteArray) (a0_1 : Bool) (l0_2 : List (S137)) (a1 : Int) : Option (Int):=if (wrap64 (a1 - (a0_0.size : Int))) < 0 then (some (-1)) else ((laws_szByS.f l0_2 (wrap64 (a1 - (a0_0.size : Int)))).bind fun t257=>(if t257 < 0 then (some (-1)) else (some t257)))
set_option maxHeartbeats 8000000 in
set_option maxRecDepth 100000 in
theorem laws_szIndex.calls (a0_0 : ByteArray) (a0_1 : Bool) (A0_2 : Option Addr) (c0_2 : Nat) (l0_2 : List (S137)) (a1 : Int) (r : Int) (w : World) (hr0_2 : Kd.C k137 w A0_2 l0_2.length l0_2) (hc0_2 : l0_2.length ≤ c0_2) (h : laws_szIndex.f a0_0 a0_1 l0_2 a1 = some r) :
  Calls Tryd.prog 113 #[.agg #[.string a0_0,.bool a0_1,.slice A0_2 l0_2.length c0_2],.int .i64 a1] w fun e w'=>e = .returned (.int .i64 r) ∧ Below w.heap.size w w':=by
 have hu134:=Tryd.underlying134
 have HR0_2:=aM_ hr0_2
 have HC0_2:=aM_ hc0_2
 clear hr0_2 hc0_2
 have HB:=aM_ (Below.refl w.heap.size w)
 have H : (if (wrap64 (a1 - (a0_0.size : Int))) < 0 then (some (-1)) else ((laws_szByS.f l0_2 (wrap64 (a1 - (a0_0.size : Int)))).bind fun t257=>(if t257 < 0 then (some (-1)) else (some t257)))) = some r:=h
 clear h
 by_cases c3 : (wrap64 (a1 - (a0_0.size : Int))) < 0
 ·rw [if_pos c3] at H
  have c3b0 : decide ((wrap64 (a1 - (a0_0.size : Int))) < 0) = true:=decide_eq_true c3
  clear c3
  obtain rfl:=Option.some.inj H
  go_enter Tryd.func113,Tryd.ntmps113
  go_wp2_with (first | ((with_reducible refine gate_dst (N:=2) rfl ?_);refine box_event ?hg (N:=2) ?hd (cs:=#[.string a0_0,.bool a0_1,.slice A0_2 l0_2.length c0_2]) (t:=134) ?hr ?_;(case hd=>rfl);(case hg=>rfl);(case hr=>first | (go_simp;done) | (go_simp;rfl));intro gb256 hg w4 hbox hb;have n0_:=aM_ (bT_ (by exact bZ_ HB) hb);have n1_:=aM_ (hbox);have n2_:=aM_ ((by rw [hg];exact (bS_ (by exact bZ_ HB)) : w.heap.size ≤ gb256));have n3_:=aM_ ((by rw [hg];exact (bS_ (by exact bZ_ HB)) : w.heap.size ≤ gb256));clear HB;have HB:=n0_;have BK256:=n1_;have GW256:=n2_;have GE256:=n3_;clear n0_ n1_ n2_ n3_;clear hb hbox hg;have hcz5_0 : w4.cell? ⟨gb256,0,none⟩ = some (.string a0_0):=(kC_ BK256.out 0).trans rfl;have hcz5_1 : w4.cell? ⟨gb256,1,none⟩ = some (.bool a0_1):=(kC_ BK256.out 1).trans rfl;have hcz5_2 : w4.cell? ⟨gb256,2,none⟩ = some (.slice A0_2 l0_2.length c0_2):=(kC_ BK256.out 2).trans rfl;have hfz5_0:=kF_ BK256.out 0;have hfz5_1:=kF_ BK256.out 1;have hfz5_2:=kF_ BK256.out 2))
  go_ret
  exact ⟨by first | rfl | (simp [errW_none,errW_some] <;> rfl) | (simp [*, errW_none,errW_some] <;> rfl),by exact bZ_ HB⟩
 ·rw [if_neg c3] at H
  have c3b0 : decide ((wrap64 (a1 - (a0_0.size : Int))) < 0) = false:=decide_eq_false c3
  clear c3
  replace H:=oB_ H
  obtain ⟨t257,A60,H⟩:=H
  replace H : (if t257 < 0 then (some (-1)) else (some t257)) = some r:=H
  have A6:=aM_ A60
  clear A60
  by_cases c7 : t257 < 0
  ·rw [if_pos c7] at H
   have c7b0 : decide (t257 < 0) = true:=decide_eq_true c7
   clear c7
   obtain rfl:=Option.some.inj H
   go_enter Tryd.func113,Tryd.ntmps113
   go_wp2_with (first | ((with_reducible refine gate_dst (N:=2) rfl ?_);refine box_event ?hg (N:=2) ?hd (cs:=#[.string a0_0,.bool a0_1,.slice A0_2 l0_2.length c0_2]) (t:=134) ?hr ?_;(case hd=>rfl);(case hg=>rfl);(case hr=>first | (go_simp;done) | (go_simp;rfl));intro gb256 hg w8 hbox hb;have n0_:=aM_ (bT_ (by exact bZ_ HB) hb);have n1_:=aM_ (hbox);have n2_:=aM_ ((by rw [hg];exact (bS_ (by exact bZ_ HB)) : w.heap.size ≤ gb256));have n3_:=aM_ ((by rw [hg];exact (bS_ (by exact bZ_ HB)) : w.heap.size ≤ gb256));clear HB;have HB:=n0_;have BK256:=n1_;have GW256:=n2_;have GE256:=n3_;clear n0_ n1_ n2_ n3_;clear hb hbox hg;have hcz9_0 : w8.cell? ⟨gb256,0,none⟩ = some (.string a0_0):=(kC_ BK256.out 0).trans rfl;have hcz9_1 : w8.cell? ⟨gb256,1,none⟩ = some (.bool a0_1):=(kC_ BK256.out 1).trans rfl;have hcz9_2 : w8.cell? ⟨gb256,2,none⟩ = some (.slice A0_2 l0_2.length c0_2):=(kC_ BK256.out 2).trans rfl;have hfz9_0:=kF_ BK256.out 0;have hfz9_1:=kF_ BK256.out 1;have hfz9_2:=kF_ BK256.out 2) | ((with_reducible refine gate_callee (f:=71) rfl ?_);refine goesL_ (some 15) rfl rfl Tryd.func71 (by kernel_rfl) rfl #[.slice A0_2 l0_2.length c0_2,.int .i64 (wrap64 (a1 - (a0_0.size : Int)))] rfl (by (try simp only [mA_,mC_,mN_]);first | done | rfl | (simp only [lD_,lT_];rfl)) ?_;(with_reducible refine (laws_szByS.calls _ _ l0_2 (wrap64 (a1 - (a0_0.size : Int))) t257 _ ?side1 ?side2 A6.out).mono ?_);(case side1=>repeat (first | exact (Kd.C_below HR0_2.out HB.out) | (with_reducible refine cA_ ?_ _) | (with_reducible refine cN_ ?_ _) | (with_reducible refine cD_ ?_)));(case side2=>exact HC0_2.out);rintro e w' ⟨rfl,⟨nd,rfl⟩⟩;refine ⟨_,rfl,?_⟩))
   go_ret
   exact ⟨by first | rfl | (simp [errW_none,errW_some] <;> rfl) | (simp [*, errW_none,errW_some] <;> rfl),by exact bZ_ HB⟩
  ·rw [if_neg c7] at H
   have c7b0 : decide (t257 < 0) = false:=decide_eq_false c7
   clear c7
   obtain rfl:=Option.some.inj H
   go_enter Tryd.func113,Tryd.ntmps113
   go_wp2_with (first | ((with_reducible refine gate_dst (N:=2) rfl ?_);refine box_event ?hg (N:=2) ?hd (cs:=#[.string a0_0,.bool a0_1,.slice A0_2 l0_2.length c0_2]) (t:=134) ?hr ?_;(case hd=>rfl);(case hg=>rfl);(case hr=>first | (go_simp;done) | (go_simp;rfl));intro gb256 hg w10 hbox hb;have n0_:=aM_ (bT_ (by exact bZ_ HB) hb);have n1_:=aM_ (hbox);have n2_:=aM_ ((by rw [hg];exact (bS_ (by exact bZ_ HB)) : w.heap.size ≤ gb256));have n3_:=aM_ ((by rw [hg];exact (bS_ (by exact bZ_ HB)) : w.heap.size ≤ gb256));clear HB;have HB:=n0_;have BK256:=n1_;have GW256:=n2_;have GE256:=n3_;clear n0_ n1_ n2_ n3_;clear hb hbox hg;have hcz11_0 : w10.cell? ⟨gb256,0,none⟩ = some (.string a0_0):=(kC_ BK256.out 0).trans rfl;have hcz11_1 : w10.cell? ⟨gb256,1,none⟩ = some (.bool a0_1):=(kC_ BK256.out 1).trans rfl;have hcz11_2 : w10.cell? ⟨gb256,2,none⟩ = some (.slice A0_2 l0_2.length c0_2):=(kC_ BK256.out 2).trans rfl;have hfz11_0:=kF_ BK256.out 0;have hfz11_1:=kF_ BK256.out 1;have hfz11_2:=kF_ BK256.out 2) | ((with_reducible refine gate_callee (f:=71) rfl ?_);refine goesL_ (some 15) rfl rfl Tryd.func71 (by kernel_rfl) rfl #[.slice A0_2 l0_2.length c0_2,.int .i64 (wrap64 (a1 - (a0_0.size : Int)))] rfl (by (try simp only [mA_,mC_,mN_]);first | done | rfl | (simp only [lD_,lT_];rfl)) ?_;(with_reducible refine (laws_szByS.calls _ _ l0_2 (wrap64 (a1 - (a0_0.size : Int))) t257 _ ?side1 ?side2 A6.out).mono ?_);(case side1=>repeat (first | exact (Kd.C_below HR0_2.out HB.out) | (with_reducible refine cA_ ?_ _) | (with_reducible refine cN_ ?_ _) | (with_reducible refine cD_ ?_)));(case side2=>exact HC0_2.out);rintro e w' ⟨rfl,⟨nd,rfl⟩⟩;refine ⟨_,rfl,?_⟩))
   go_ret
   exact ⟨by first | rfl | (simp [errW_none,errW_some] <;> rfl) | (simp [*, errW_none,errW_some] <;> rfl),by exact bZ_ HB⟩
def laws_szIndexS.l0 : Nat → List (S134) → Int → Int → Option (Int)
 | 0,_,_,_=>none
 | k + 1,x0,x1,x5=>if x5 < (x0.length : Int) then (if 0 ≤ x5 then ((laws_szIndex.f ((rd_T134 x0 x5).f0) ((rd_T134 x0 x5).f1) ((rd_T134 x0 x5).f2) x1).bind fun t259=>(if t259 < 0 then (some (-1)) else (laws_szIndexS.l0 k x0 t259 (wrap64 (x5 + 1))))) else (none)) else (some x1)
def laws_szIndexS.f (k : Nat) (l0 : List (S134)) (a1 : Int) : Option (Int):=if (wrap64 (a1 - (l0.length : Int))) < 0 then (some (-1)) else (laws_szIndexS.l0 k l0 (wrap64 (a1 - (l0.length : Int))) 0)
theorem laws_szIndexS.mono_l : ∀ k,(∀ y0 y1 y2,LeO (laws_szIndexS.l0 k y0 y1 y2) (laws_szIndexS.l0 (k + 1) y0 y1 y2))
 | 0=>fun _ _ _ r h=>by simp [laws_szIndexS.l0] at h
 | k + 1=>by
  have ih0:=laws_szIndexS.mono_l k
  ·intro y0 y1 y2
   unfold laws_szIndexS.l0
   repeat' first
   | (with_reducible exact ih0 _ _ _)
   | (with_reducible exact LeO.refl _)
   | (with_reducible exact LeO.none _)
   | (with_reducible refine LeO.ite ?_ ?_)
   | (with_reducible refine LeO.bind ?_ (fun _=>?_))
   | exact ih0 _ _ _
   | exact LeO.none _
   | refine LeO.ite ?_ ?_
   | refine LeO.bind ?_ (fun _=>?_)
theorem laws_szIndexS.mono : ∀ a0 a1 k,LeO (laws_szIndexS.f k a0 a1) (laws_szIndexS.f (k + 1) a0 a1):=by
 intro a0 a1 k
 have ih0:=laws_szIndexS.mono_l k
 unfold laws_szIndexS.f
 repeat' first
   | (with_reducible exact ih0 _ _ _)
   | (with_reducible exact LeO.refl _)
   | (with_reducible exact LeO.none _)
   | (with_reducible refine LeO.ite ?_ ?_)
   | (with_reducible refine LeO.bind ?_ (fun _=>?_))
   | exact ih0 _ _ _
   | exact LeO.none _
   | refine LeO.ite ?_ ?_
   | refine LeO.bind ?_ (fun _=>?_)
set_option maxHeartbeats 8000000 in
set_option maxRecDepth 100000 in
theorem laws_szIndexS.calls (k : Nat) (A0 : Option Addr) (c0 : Nat) (l0 : List (S134)) (a1 : Int) (r : Int) (w : World) (hr0 : Kd.C k134 w A0 l0.length l0) (hc0 : l0.length ≤ c0) (h : laws_szIndexS.f k l0 a1 = some r) :
  Calls Tryd.prog 72 #[.slice A0 l0.length c0,.int .i64 a1] w fun e w'=>e = .returned (.int .i64 r) ∧ Below w.heap.size w w':=by
 have hu134:=Tryd.underlying134
 have HR0:=aM_ hr0
 have HC0:=aM_ hc0
 clear hr0 hc0
 have HB:=aM_ (Below.refl w.heap.size w)
 have H : (if (wrap64 (a1 - (l0.length : Int))) < 0 then (some (-1)) else (laws_szIndexS.l0 k l0 (wrap64 (a1 - (l0.length : Int))) 0)) = some r:=h
 clear h
 by_cases c3 : (wrap64 (a1 - (l0.length : Int))) < 0
 ·rw [if_pos c3] at H
  have c3b0 : decide ((wrap64 (a1 - (l0.length : Int))) < 0) = true:=decide_eq_true c3
  clear c3
  obtain rfl:=Option.some.inj H
  go_enter Tryd.func72,Tryd.ntmps72
  go_wp2
  go_ret
  exact ⟨by first | rfl | (simp [errW_none,errW_some] <;> rfl) | (simp [*, errW_none,errW_some] <;> rfl),by exact bZ_ HB⟩
 ·rw [if_neg c3] at H
  have c3b0 : decide ((wrap64 (a1 - (l0.length : Int))) < 0) = false:=decide_eq_false c3
  clear c3
  have H':=aM_ H
  clear H
  go_enter Tryd.func72,Tryd.ntmps72
  go_wp2
  (try simp only [Act.put,sI_,sS_,sZ_])
  go_loopg [1,5] k (fun kq v1 v5 w'=>∃ (x1_1 : Int) (x5_1 : Int),v1 = .int .i64 x1_1 ∧ v5 = .int .i64 x5_1 ∧ Aside0 (laws_szIndexS.l0 kq l0 x1_1 x5_1 = some r) ∧ Aside0 (kq ≤ k) ∧ Aside0 (Below w.heap.size w w'))
  case atStart=>exact ⟨(wrap64 (a1 - (l0.length : Int))),(0),(by first | rfl | (simp;done) | (simp [*];done)),(by first | rfl | (simp;done) | (simp [*];done)),H', ⟨Nat.le_refl _⟩,⟨by exact bZ_ HB⟩⟩
  case round =>
   clear H'
   try clear p2
   try clear c3
   try clear c3b0
   obtain ⟨x1_1,x5_1,rfl,rfl,HA,HK1,HB⟩:=hrel
   cases gk with
   | zero=>exact absurd HA.out (by simp [laws_szIndexS.l0])
   | succ k1 =>
    have H:=HA.out
    clear HA
    simp only [laws_szIndexS.l0] at H
    by_cases c4 : x5_1 < (l0.length : Int)
    ·rw [if_pos c4] at H
     have c4b0 : decide (x5_1 < (l0.length : Int)) = true:=decide_eq_true c4
     clear c4
     by_cases c5 : 0 ≤ x5_1
     ·rw [if_pos c5] at H
      have c5b0 : decide (0 ≤ x5_1) = true:=decide_eq_true c5
      clear c5
      replace H:=oB_ H
      obtain ⟨t259,A60,H⟩:=H
      replace H : (if t259 < 0 then (some (-1)) else (laws_szIndexS.l0 k1 l0 t259 (wrap64 (x5_1 + 1)))) = some r:=H
      have A6:=aM_ A60
      clear A60
      by_cases c7 : t259 < 0
      ·rw [if_pos c7] at H
       have c7b0 : decide (t259 < 0) = true:=decide_eq_true c7
       clear c7
       obtain rfl:=Option.some.inj H
       have p258 : 0 ≤ (x5_1 : Int):=oT_ (by first | (with_reducible assumption) | assumption)
       have q258 : x5_1 < (l0.length : Int):=oT_ (by first | (with_reducible assumption) | assumption)
       obtain ⟨ad258,A258_2,c258_2,e258,hx258_0,hx258_1,hx258_2,hl258_2,hi258_2⟩:=at_T134 HR0.out x5_1 p258 q258
       cases e258
       replace hx258_0:=(HB.out.cell (wL_ w _ hx258_0)).trans hx258_0
       replace hx258_1:=(HB.out.cell (wL_ w _ hx258_1)).trans hx258_1
       replace hx258_2:=(HB.out.cell (wL_ w _ hx258_2)).trans hx258_2
       have HR258_2:=aM_ hi258_2
       have HC258_2:=aM_ hl258_2
       clear hi258_2 hl258_2
       replace p258:=eq_true p258
       replace q258:=eq_true q258
       go_wp2_with (first | ((with_reducible refine gate_callee (f:=113) rfl ?_);refine goesL_ (some 23) rfl rfl Tryd.func113 (by kernel_rfl) rfl #[.agg #[.string ((rd_T134 l0 x5_1).f0),.bool ((rd_T134 l0 x5_1).f1),.slice A258_2 ((rd_T134 l0 x5_1).f2).length c258_2],.int .i64 x1_1] rfl (by (try simp only [mA_,mC_,mN_]);first | done | rfl | (simp only [lD_,lT_];rfl)) ?_;(with_reducible refine (laws_szIndex.calls ((rd_T134 l0 x5_1).f0) ((rd_T134 l0 x5_1).f1) _ _ ((rd_T134 l0 x5_1).f2) x1_1 t259 _ ?side1 ?side2 A6.out).mono ?_);(case side1=>repeat (first | exact (Kd.C_below HR258_2.out HB.out) | (with_reducible refine cA_ ?_ _) | (with_reducible refine cN_ ?_ _) | (with_reducible refine cD_ ?_)));(case side2=>exact HC258_2.out);rintro e w8 ⟨rfl,hb⟩;refine ⟨_,rfl,?_⟩;have n0_:=aM_ (bT_ (by exact bZ_ HB) hb);clear HB;have HB:=n0_;clear n0_;(try clear hb);(try clear hb2);(try clear hk);(try clear hi)))
       go_ret
       exact ⟨by first | rfl | (simp [errW_none,errW_some] <;> rfl) | (simp [*, errW_none,errW_some] <;> rfl),by exact bZ_ HB⟩
      ·rw [if_neg c7] at H
       have c7b0 : decide (t259 < 0) = false:=decide_eq_false c7
       clear c7
       have H':=aM_ H
       clear H
       have p258 : 0 ≤ (x5_1 : Int):=oT_ (by first | (with_reducible assumption) | assumption)
       have q258 : x5_1 < (l0.length : Int):=oT_ (by first | (with_reducible assumption) | assumption)
       obtain ⟨ad258,A258_2,c258_2,e258,hx258_0,hx258_1,hx258_2,hl258_2,hi258_2⟩:=at_T134 HR0.out x5_1 p258 q258
       cases e258
       replace hx258_0:=(HB.out.cell (wL_ w _ hx258_0)).trans hx258_0
       replace hx258_1:=(HB.out.cell (wL_ w _ hx258_1)).trans hx258_1
       replace hx258_2:=(HB.out.cell (wL_ w _ hx258_2)).trans hx258_2
       have HR258_2:=aM_ hi258_2
       have HC258_2:=aM_ hl258_2
       clear hi258_2 hl258_2
       replace p258:=eq_true p258
       replace q258:=eq_true q258
       go_wp2_with (first | ((with_reducible refine gate_callee (f:=113) rfl ?_);refine goesL_ (some 23) rfl rfl Tryd.func113 (by kernel_rfl) rfl #[.agg #[.string ((rd_T134 l0 x5_1).f0),.bool ((rd_T134 l0 x5_1).f1),.slice A258_2 ((rd_T134 l0 x5_1).f2).length c258_2],.int .i64 x1_1] rfl (by (try simp only [mA_,mC_,mN_]);first | done | rfl | (simp only [lD_,lT_];rfl)) ?_;(with_reducible refine (laws_szIndex.calls ((rd_T134 l0 x5_1).f0) ((rd_T134 l0 x5_1).f1) _ _ ((rd_T134 l0 x5_1).f2) x1_1 t259 _ ?side1 ?side2 A6.out).mono ?_);(case side1=>repeat (first | exact (Kd.C_below HR258_2.out HB.out) | (with_reducible refine cA_ ?_ _) | (with_reducible refine cN_ ?_ _) | (with_reducible refine cD_ ?_)));(case side2=>exact HC258_2.out);rintro e w9 ⟨rfl,hb⟩;refine ⟨_,rfl,?_⟩;have n0_:=aM_ (bT_ (by exact bZ_ HB) hb);clear HB;have HB:=n0_;clear n0_;(try clear hb);(try clear hb2);(try clear hk);(try clear hi)))
       go_roundg k1
       case measure=>have:=HK1.out;omega
       case rel=>exact ⟨(t259),(wrap64 (x5_1 + 1)),(by first | rfl | (simp;done) | (simp [*];done)),(by first | rfl | (simp;done) | (simp [*];done)),H', ⟨by have:=HK1.out;omega⟩,⟨by exact bZ_ HB⟩⟩
     ·rw [if_neg c5] at H
      exact absurd H (by simp)
    ·rw [if_neg c4] at H
     have c4b0 : decide (x5_1 < (l0.length : Int)) = false:=decide_eq_false c4
     clear c4
     obtain rfl:=Option.some.inj H
     go_wp2
     go_ret
     exact ⟨by first | rfl | (simp [errW_none,errW_some] <;> rfl) | (simp [*, errW_none,errW_some] <;> rfl),by exact bZ_ HB⟩
def laws_szDef.f (k : Nat) (a0_0 : ByteArray) (l0_1 : List (S131)) (l0_2 : List (S137)) (l0_3 : List (S134)) (a1 : Int) : Option (Int):=if (wrap64 (a1 - (a0_0.size : Int))) < 0 then (some (-1)) else ((laws_szColS.f k l0_1 (wrap64 (a1 - (a0_0.size : Int)))).bind fun t261=>(if t261 < 0 then (some (-1)) else ((laws_szByS.f l0_2 t261).bind fun t262=>(if t262 < 0 then (some (-1)) else ((laws_szIndexS.f k l0_3 t262).bind fun t263=>(if t263 < 0 then (some (-1)) else (some t263)))))))
theorem laws_szDef.mono : ∀ a0 a1 a2 a3 a4 k,LeO (laws_szDef.f k a0 a1 a2 a3 a4) (laws_szDef.f (k + 1) a0 a1 a2 a3 a4):=by
 intro a0 a1 a2 a3 a4 k
 unfold laws_szDef.f
 repeat' first
   | (with_reducible exact laws_szColS.mono _ _ _)
   | (with_reducible exact laws_szIndexS.mono _ _ _)
   | (with_reducible exact LeO.refl _)
   | (with_reducible exact LeO.none _)
   | (with_reducible refine LeO.ite ?_ ?_)
   | (with_reducible refine LeO.bind ?_ (fun _=>?_))
   | exact laws_szColS.mono _ _ _
   | exact laws_szIndexS.mono _ _ _
   | exact LeO.none _
   | refine LeO.ite ?_ ?_
   | refine LeO.bind ?_ (fun _=>?_)
set_option maxHeartbeats 8000000 in
set_option maxRecDepth 100000 in
theorem laws_szDef.calls (k : Nat) (a0_0 : ByteArray) (A0_1 : Option Addr) (c0_1 : Nat) (l0_1 : List (S131)) (A0_2 : Option Addr) (c0_2 : Nat) (l0_2 : List (S137)) (A0_3 : Option Addr) (c0_3 : Nat) (l0_3 : List (S134)) (a1 : Int) (r : Int) (w : World) (hr0_1 : Kd.C k131 w A0_1 l0_1.length l0_1) (hc0_1 : l0_1.length ≤ c0_1) (hr0_2 : Kd.C k137 w A0_2 l0_2.length l0_2) (hc0_2 : l0_2.length ≤ c0_2) (hr0_3 : Kd.C k134 w A0_3 l0_3.length l0_3) (hc0_3 : l0_3.length ≤ c0_3) (h : laws_szDef.f k a0_0 l0_1 l0_2 l0_3 a1 = some r) :
  Calls Tryd.prog 28 #[.agg #[.string a0_0,.slice A0_1 l0_1.length c0_1,.slice A0_2 l0_2.length c0_2,.slice A0_3 l0_3.length c0_3],.int .i64 a1] w fun e w'=>e = .returned (.int .i64 r) ∧ Below w.heap.size w w':=by
 have hu46:=Tryd.underlying46
 have HR0_1:=aM_ hr0_1
 have HC0_1:=aM_ hc0_1
 clear hr0_1 hc0_1
 have HR0_2:=aM_ hr0_2
 have HC0_2:=aM_ hc0_2
 clear hr0_2 hc0_2
 have HR0_3:=aM_ hr0_3
 have HC0_3:=aM_ hc0_3
 clear hr0_3 hc0_3
 have HB:=aM_ (Below.refl w.heap.size w)
 have H : (if (wrap64 (a1 - (a0_0.size : Int))) < 0 then (some (-1)) else ((laws_szColS.f k l0_1 (wrap64 (a1 - (a0_0.size : Int)))).bind fun t261=>(if t261 < 0 then (some (-1)) else ((laws_szByS.f l0_2 t261).bind fun t262=>(if t262 < 0 then (some (-1)) else ((laws_szIndexS.f k l0_3 t262).bind fun t263=>(if t263 < 0 then (some (-1)) else (some t263)))))))) = some r:=h
 clear h
 by_cases c3 : (wrap64 (a1 - (a0_0.size : Int))) < 0
 ·rw [if_pos c3] at H
  have c3b0 : decide ((wrap64 (a1 - (a0_0.size : Int))) < 0) = true:=decide_eq_true c3
  clear c3
  obtain rfl:=Option.some.inj H
  go_enter Tryd.func28,Tryd.ntmps28
  go_wp2_with (first | ((with_reducible refine gate_dst (N:=2) rfl ?_);refine box_event ?hg (N:=2) ?hd (cs:=#[.string a0_0,.slice A0_1 l0_1.length c0_1,.slice A0_2 l0_2.length c0_2,.slice A0_3 l0_3.length c0_3]) (t:=46) ?hr ?_;(case hd=>rfl);(case hg=>rfl);(case hr=>first | (go_simp;done) | (go_simp;rfl));intro gb260 hg w4 hbox hb;have n0_:=aM_ (bT_ (by exact bZ_ HB) hb);have n1_:=aM_ (hbox);have n2_:=aM_ ((by rw [hg];exact (bS_ (by exact bZ_ HB)) : w.heap.size ≤ gb260));have n3_:=aM_ ((by rw [hg];exact (bS_ (by exact bZ_ HB)) : w.heap.size ≤ gb260));clear HB;have HB:=n0_;have BK260:=n1_;have GW260:=n2_;have GE260:=n3_;clear n0_ n1_ n2_ n3_;clear hb hbox hg;have hcz5_0 : w4.cell? ⟨gb260,0,none⟩ = some (.string a0_0):=(kC_ BK260.out 0).trans rfl;have hcz5_1 : w4.cell? ⟨gb260,1,none⟩ = some (.slice A0_1 l0_1.length c0_1):=(kC_ BK260.out 1).trans rfl;have hcz5_2 : w4.cell? ⟨gb260,2,none⟩ = some (.slice A0_2 l0_2.length c0_2):=(kC_ BK260.out 2).trans rfl;have hcz5_3 : w4.cell? ⟨gb260,3,none⟩ = some (.slice A0_3 l0_3.length c0_3):=(kC_ BK260.out 3).trans rfl;have hfz5_0:=kF_ BK260.out 0;have hfz5_1:=kF_ BK260.out 1;have hfz5_2:=kF_ BK260.out 2;have hfz5_3:=kF_ BK260.out 3))
  go_ret
  exact ⟨by first | rfl | (simp [errW_none,errW_some] <;> rfl) | (simp [*, errW_none,errW_some] <;> rfl),by exact bZ_ HB⟩
 ·rw [if_neg c3] at H
  have c3b0 : decide ((wrap64 (a1 - (a0_0.size : Int))) < 0) = false:=decide_eq_false c3
  clear c3
  replace H:=oB_ H
  obtain ⟨t261,A60,H⟩:=H
  replace H : (if t261 < 0 then (some (-1)) else ((laws_szByS.f l0_2 t261).bind fun t262=>(if t262 < 0 then (some (-1)) else ((laws_szIndexS.f k l0_3 t262).bind fun t263=>(if t263 < 0 then (some (-1)) else (some t263)))))) = some r:=H
  have A6:=aM_ A60
  clear A60
  by_cases c7 : t261 < 0
  ·rw [if_pos c7] at H
   have c7b0 : decide (t261 < 0) = true:=decide_eq_true c7
   clear c7
   obtain rfl:=Option.some.inj H
   go_enter Tryd.func28,Tryd.ntmps28
   go_wp2_with (first | ((with_reducible refine gate_dst (N:=2) rfl ?_);refine box_event ?hg (N:=2) ?hd (cs:=#[.string a0_0,.slice A0_1 l0_1.length c0_1,.slice A0_2 l0_2.length c0_2,.slice A0_3 l0_3.length c0_3]) (t:=46) ?hr ?_;(case hd=>rfl);(case hg=>rfl);(case hr=>first | (go_simp;done) | (go_simp;rfl));intro gb260 hg w8 hbox hb;have n0_:=aM_ (bT_ (by exact bZ_ HB) hb);have n1_:=aM_ (hbox);have n2_:=aM_ ((by rw [hg];exact (bS_ (by exact bZ_ HB)) : w.heap.size ≤ gb260));have n3_:=aM_ ((by rw [hg];exact (bS_ (by exact bZ_ HB)) : w.heap.size ≤ gb260));clear HB;have HB:=n0_;have BK260:=n1_;have GW260:=n2_;have GE260:=n3_;clear n0_ n1_ n2_ n3_;clear hb hbox hg;have hcz9_0 : w8.cell? ⟨gb260,0,none⟩ = some (.string a0_0):=(kC_ BK260.out 0).trans rfl;have hcz9_1 : w8.cell? ⟨gb260,1,none⟩ = some (.slice A0_1 l0_1.length c0_1):=(kC_ BK260.out 1).trans rfl;have hcz9_2 : w8.cell? ⟨gb260,2,none⟩ = some (.slice A0_2 l0_2.length c0_2):=(kC_ BK260.out 2).trans rfl;have hcz9_3 : w8.cell? ⟨gb260,3,none⟩ = some (.slice A0_3 l0_3.length c0_3):=(kC_ BK260.out 3).trans rfl;have hfz9_0:=kF_ BK260.out 0;have hfz9_1:=kF_ BK260.out 1;have hfz9_2:=kF_ BK260.out 2;have hfz9_3:=kF_ BK260.out 3) | ((with_reducible refine gate_callee (f:=70) rfl ?_);refine goesL_ (some 15) rfl rfl Tryd.func70 (by kernel_rfl) rfl #[.slice A0_1 l0_1.length c0_1,.int .i64 (wrap64 (a1 - (a0_0.size : Int)))] rfl (by (try simp only [mA_,mC_,mN_]);first | done | rfl | (simp only [lD_,lT_];rfl)) ?_;(with_reducible refine (laws_szColS.calls k _ _ l0_1 (wrap64 (a1 - (a0_0.size : Int))) t261 _ ?side1 ?side2 A6.out).mono ?_);(case side1=>repeat (first | exact (Kd.C_below HR0_1.out HB.out) | (with_reducible refine cA_ ?_ _) | (with_reducible refine cN_ ?_ _) | (with_reducible refine cD_ ?_)));(case side2=>exact HC0_1.out);rintro e w10 ⟨rfl,hb⟩;refine ⟨_,rfl,?_⟩;have n0_:=aM_ (blk_below (g:=gb260) (o:=.cells #[.string a0_0,.slice A0_1 l0_1.length c0_1,.slice A0_2 l0_2.length c0_2,.slice A0_3 l0_3.length c0_3] 46 (0,0)) (by exact kZ_ BK260) hb);have n1_:=aM_ (bT_ (by exact bZ_ HB) hb);clear BK260;clear HB;have BK260:=n0_;have HB:=n1_;clear n0_ n1_;(try clear hb);(try clear hb2);(try clear hk);(try clear hi)))
   go_ret
   exact ⟨by first | rfl | (simp [errW_none,errW_some] <;> rfl) | (simp [*, errW_none,errW_some] <;> rfl),by exact bZ_ HB⟩
  ·rw [if_neg c7] at H
   have c7b0 : decide (t261 < 0) = false:=decide_eq_false c7
   clear c7
   replace H:=oB_ H
   obtain ⟨t262,A110,H⟩:=H
   replace H : (if t262 < 0 then (some (-1)) else ((laws_szIndexS.f k l0_3 t262).bind fun t263=>(if t263 < 0 then (some (-1)) else (some t263)))) = some r:=H
   have A11:=aM_ A110
   clear A110
   by_cases c12 : t262 < 0
   ·rw [if_pos c12] at H
    have c12b0 : decide (t262 < 0) = true:=decide_eq_true c12
    clear c12
    obtain rfl:=Option.some.inj H
    go_enter Tryd.func28,Tryd.ntmps28
    go_wp2_with (first | ((with_reducible refine gate_dst (N:=2) rfl ?_);refine box_event ?hg (N:=2) ?hd (cs:=#[.string a0_0,.slice A0_1 l0_1.length c0_1,.slice A0_2 l0_2.length c0_2,.slice A0_3 l0_3.length c0_3]) (t:=46) ?hr ?_;(case hd=>rfl);(case hg=>rfl);(case hr=>first | (go_simp;done) | (go_simp;rfl));intro gb260 hg w13 hbox hb;have n0_:=aM_ (bT_ (by exact bZ_ HB) hb);have n1_:=aM_ (hbox);have n2_:=aM_ ((by rw [hg];exact (bS_ (by exact bZ_ HB)) : w.heap.size ≤ gb260));have n3_:=aM_ ((by rw [hg];exact (bS_ (by exact bZ_ HB)) : w.heap.size ≤ gb260));clear HB;have HB:=n0_;have BK260:=n1_;have GW260:=n2_;have GE260:=n3_;clear n0_ n1_ n2_ n3_;clear hb hbox hg;have hcz14_0 : w13.cell? ⟨gb260,0,none⟩ = some (.string a0_0):=(kC_ BK260.out 0).trans rfl;have hcz14_1 : w13.cell? ⟨gb260,1,none⟩ = some (.slice A0_1 l0_1.length c0_1):=(kC_ BK260.out 1).trans rfl;have hcz14_2 : w13.cell? ⟨gb260,2,none⟩ = some (.slice A0_2 l0_2.length c0_2):=(kC_ BK260.out 2).trans rfl;have hcz14_3 : w13.cell? ⟨gb260,3,none⟩ = some (.slice A0_3 l0_3.length c0_3):=(kC_ BK260.out 3).trans rfl;have hfz14_0:=kF_ BK260.out 0;have hfz14_1:=kF_ BK260.out 1;have hfz14_2:=kF_ BK260.out 2;have hfz14_3:=kF_ BK260.out 3) | ((with_reducible refine gate_callee (f:=70) rfl ?_);refine goesL_ (some 15) rfl rfl Tryd.func70 (by kernel_rfl) rfl #[.slice A0_1 l0_1.length c0_1,.int .i64 (wrap64 (a1 - (a0_0.size : Int)))] rfl (by (try simp only [mA_,mC_,mN_]);first | done | rfl | (simp only [lD_,lT_];rfl)) ?_;(with_reducible refine (laws_szColS.calls k _ _ l0_1 (wrap64 (a1 - (a0_0.size : Int))) t261 _ ?side1 ?side2 A6.out).mono ?_);(case side1=>repeat (first | exact (Kd.C_below HR0_1.out HB.out) | (with_reducible refine cA_ ?_ _) | (with_reducible refine cN_ ?_ _) | (with_reducible refine cD_ ?_)));(case side2=>exact HC0_1.out);rintro e w15 ⟨rfl,hb⟩;refine ⟨_,rfl,?_⟩;have n0_:=aM_ (blk_below (g:=gb260) (o:=.cells #[.string a0_0,.slice A0_1 l0_1.length c0_1,.slice A0_2 l0_2.length c0_2,.slice A0_3 l0_3.length c0_3] 46 (0,0)) (by exact kZ_ BK260) hb);have n1_:=aM_ (bT_ (by exact bZ_ HB) hb);clear BK260;clear HB;have BK260:=n0_;have HB:=n1_;clear n0_ n1_;(try clear hb);(try clear hb2);(try clear hk);(try clear hi);have hcz16_0 : w15.cell? ⟨gb260,0,none⟩ = some (.string a0_0):=(kC_ BK260.out 0).trans rfl;have hcz16_1 : w15.cell? ⟨gb260,1,none⟩ = some (.slice A0_1 l0_1.length c0_1):=(kC_ BK260.out 1).trans rfl;have hcz16_2 : w15.cell? ⟨gb260,2,none⟩ = some (.slice A0_2 l0_2.length c0_2):=(kC_ BK260.out 2).trans rfl;have hcz16_3 : w15.cell? ⟨gb260,3,none⟩ = some (.slice A0_3 l0_3.length c0_3):=(kC_ BK260.out 3).trans rfl;have hfz16_0:=kF_ BK260.out 0;have hfz16_1:=kF_ BK260.out 1;have hfz16_2:=kF_ BK260.out 2;have hfz16_3:=kF_ BK260.out 3) | ((with_reducible refine gate_callee (f:=71) rfl ?_);refine goesL_ (some 21) rfl rfl Tryd.func71 (by kernel_rfl) rfl #[.slice A0_2 l0_2.length c0_2,.int .i64 t261] rfl (by (try simp only [mA_,mC_,mN_]);first | done | rfl | (simp only [lD_,lT_];rfl)) ?_;(with_reducible refine (laws_szByS.calls _ _ l0_2 t261 t262 _ ?side1 ?side2 A11.out).mono ?_);(case side1=>repeat (first | exact (Kd.C_below HR0_2.out HB.out) | (with_reducible refine cA_ ?_ _) | (with_reducible refine cN_ ?_ _) | (with_reducible refine cD_ ?_)));(case side2=>exact HC0_2.out);rintro e w' ⟨rfl,⟨nd,rfl⟩⟩;refine ⟨_,rfl,?_⟩))
    go_ret
    exact ⟨by first | rfl | (simp [errW_none,errW_some] <;> rfl) | (simp [*, errW_none,errW_some] <;> rfl),by exact bZ_ HB⟩
   ·rw [if_neg c12] at H
    have c12b0 : decide (t262 < 0) = false:=decide_eq_false c12
    clear c12
    replace H:=oB_ H
    obtain ⟨t263,A170,H⟩:=H
    replace H : (if t263 < 0 then (some (-1)) else (some t263)) = some r:=H
    have A17:=aM_ A170
    clear A170
    by_cases c18 : t263 < 0
    ·rw [if_pos c18] at H
     have c18b0 : decide (t263 < 0) = true:=decide_eq_true c18
     clear c18
     obtain rfl:=Option.some.inj H
     go_enter Tryd.func28,Tryd.ntmps28
     go_wp2_with (first | ((with_reducible refine gate_dst (N:=2) rfl ?_);refine box_event ?hg (N:=2) ?hd (cs:=#[.string a0_0,.slice A0_1 l0_1.length c0_1,.slice A0_2 l0_2.length c0_2,.slice A0_3 l0_3.length c0_3]) (t:=46) ?hr ?_;(case hd=>rfl);(case hg=>rfl);(case hr=>first | (go_simp;done) | (go_simp;rfl));intro gb260 hg w19 hbox hb;have n0_:=aM_ (bT_ (by exact bZ_ HB) hb);have n1_:=aM_ (hbox);have n2_:=aM_ ((by rw [hg];exact (bS_ (by exact bZ_ HB)) : w.heap.size ≤ gb260));have n3_:=aM_ ((by rw [hg];exact (bS_ (by exact bZ_ HB)) : w.heap.size ≤ gb260));clear HB;have HB:=n0_;have BK260:=n1_;have GW260:=n2_;have GE260:=n3_;clear n0_ n1_ n2_ n3_;clear hb hbox hg;have hcz20_0 : w19.cell? ⟨gb260,0,none⟩ = some (.string a0_0):=(kC_ BK260.out 0).trans rfl;have hcz20_1 : w19.cell? ⟨gb260,1,none⟩ = some (.slice A0_1 l0_1.length c0_1):=(kC_ BK260.out 1).trans rfl;have hcz20_2 : w19.cell? ⟨gb260,2,none⟩ = some (.slice A0_2 l0_2.length c0_2):=(kC_ BK260.out 2).trans rfl;have hcz20_3 : w19.cell? ⟨gb260,3,none⟩ = some (.slice A0_3 l0_3.length c0_3):=(kC_ BK260.out 3).trans rfl;have hfz20_0:=kF_ BK260.out 0;have hfz20_1:=kF_ BK260.out 1;have hfz20_2:=kF_ BK260.out 2;have hfz20_3:=kF_ BK260.out 3) | ((with_reducible refine gate_callee (f:=70) rfl ?_);refine goesL_ (some 15) rfl rfl Tryd.func70 (by kernel_rfl) rfl #[.slice A0_1 l0_1.length c0_1,.int .i64 (wrap64 (a1 - (a0_0.size : Int)))] rfl (by (try simp only [mA_,mC_,mN_]);first | done | rfl | (simp only [lD_,lT_];rfl)) ?_;(with_reducible refine (laws_szColS.calls k _ _ l0_1 (wrap64 (a1 - (a0_0.size : Int))) t261 _ ?side1 ?side2 A6.out).mono ?_);(case side1=>repeat (first | exact (Kd.C_below HR0_1.out HB.out) | (with_reducible refine cA_ ?_ _) | (with_reducible refine cN_ ?_ _) | (with_reducible refine cD_ ?_)));(case side2=>exact HC0_1.out);rintro e w21 ⟨rfl,hb⟩;refine ⟨_,rfl,?_⟩;have n0_:=aM_ (blk_below (g:=gb260) (o:=.cells #[.string a0_0,.slice A0_1 l0_1.length c0_1,.slice A0_2 l0_2.length c0_2,.slice A0_3 l0_3.length c0_3] 46 (0,0)) (by exact kZ_ BK260) hb);have n1_:=aM_ (bT_ (by exact bZ_ HB) hb);clear BK260;clear HB;have BK260:=n0_;have HB:=n1_;clear n0_ n1_;(try clear hb);(try clear hb2);(try clear hk);(try clear hi);have hcz22_0 : w21.cell? ⟨gb260,0,none⟩ = some (.string a0_0):=(kC_ BK260.out 0).trans rfl;have hcz22_1 : w21.cell? ⟨gb260,1,none⟩ = some (.slice A0_1 l0_1.length c0_1):=(kC_ BK260.out 1).trans rfl;have hcz22_2 : w21.cell? ⟨gb260,2,none⟩ = some (.slice A0_2 l0_2.length c0_2):=(kC_ BK260.out 2).trans rfl;have hcz22_3 : w21.cell? ⟨gb260,3,none⟩ = some (.slice A0_3 l0_3.length c0_3):=(kC_ BK260.out 3).trans rfl;have hfz22_0:=kF_ BK260.out 0;have hfz22_1:=kF_ BK260.out 1;have hfz22_2:=kF_ BK260.out 2;have hfz22_3:=kF_ BK260.out 3) | ((with_reducible refine gate_callee (f:=71) rfl ?_);refine goesL_ (some 21) rfl rfl Tryd.func71 (by kernel_rfl) rfl #[.slice A0_2 l0_2.length c0_2,.int .i64 t261] rfl (by (try simp only [mA_,mC_,mN_]);first | done | rfl | (simp only [lD_,lT_];rfl)) ?_;(with_reducible refine (laws_szByS.calls _ _ l0_2 t261 t262 _ ?side1 ?side2 A11.out).mono ?_);(case side1=>repeat (first | exact (Kd.C_below HR0_2.out HB.out) | (with_reducible refine cA_ ?_ _) | (with_reducible refine cN_ ?_ _) | (with_reducible refine cD_ ?_)));(case side2=>exact HC0_2.out);rintro e w' ⟨rfl,⟨nd,rfl⟩⟩;refine ⟨_,rfl,?_⟩) | ((with_reducible refine gate_callee (f:=72) rfl ?_);refine goesL_ (some 27) rfl rfl Tryd.func72 (by kernel_rfl) rfl #[.slice A0_3 l0_3.length c0_3,.int .i64 t262] rfl (by (try simp only [mA_,mC_,mN_]);first | done | rfl | (simp only [lD_,lT_];rfl)) ?_;(with_reducible refine (laws_szIndexS.calls k _ _ l0_3 t262 t263 _ ?side1 ?side2 A17.out).mono ?_);(case side1=>repeat (first | exact (Kd.C_below HR0_3.out (by exact bZ_ HB)) | (with_reducible refine cA_ ?_ _) | (with_reducible refine cN_ ?_ _) | (with_reducible refine cD_ ?_)));(case side2=>exact HC0_3.out);rintro e w23 ⟨rfl,hb⟩;refine ⟨_,rfl,?_⟩;have n0_:=aM_ (blk_below (g:=gb260) (o:=.cells #[.string a0_0,.slice A0_1 l0_1.length c0_1,.slice A0_2 l0_2.length c0_2,.slice A0_3 l0_3.length c0_3] 46 (0,0)) (by exact kZ_ BK260) hb);have n1_:=aM_ (bT_ (by exact bZ_ HB) hb);clear BK260;clear HB;have BK260:=n0_;have HB:=n1_;clear n0_ n1_;(try clear hb);(try clear hb2);(try clear hk);(try clear hi)))
     go_ret
     exact ⟨by first | rfl | (simp [errW_none,errW_some] <;> rfl) | (simp [*, errW_none,errW_some] <;> rfl),by exact bZ_ HB⟩
    ·rw [if_neg c18] at H
     have c18b0 : decide (t263 < 0) = false:=decide_eq_false c18
     clear c18
     obtain rfl:=Option.some.inj H
     go_enter Tryd.func28,Tryd.ntmps28
     go_wp2_with (first | ((with_reducible refine gate_dst (N:=2) rfl ?_);refine box_event ?hg (N:=2) ?hd (cs:=#[.string a0_0,.slice A0_1 l0_1.length c0_1,.slice A0_2 l0_2.length c0_2,.slice A0_3 l0_3.length c0_3]) (t:=46) ?hr ?_;(case hd=>rfl);(case hg=>rfl);(case hr=>first | (go_simp;done) | (go_simp;rfl));intro gb260 hg w24 hbox hb;have n0_:=aM_ (bT_ (by exact bZ_ HB) hb);have n1_:=aM_ (hbox);have n2_:=aM_ ((by rw [hg];exact (bS_ (by exact bZ_ HB)) : w.heap.size ≤ gb260));have n3_:=aM_ ((by rw [hg];exact (bS_ (by exact bZ_ HB)) : w.heap.size ≤ gb260));clear HB;have HB:=n0_;have BK260:=n1_;have GW260:=n2_;have GE260:=n3_;clear n0_ n1_ n2_ n3_;clear hb hbox hg;have hcz25_0 : w24.cell? ⟨gb260,0,none⟩ = some (.string a0_0):=(kC_ BK260.out 0).trans rfl;have hcz25_1 : w24.cell? ⟨gb260,1,none⟩ = some (.slice A0_1 l0_1.length c0_1):=(kC_ BK260.out 1).trans rfl;have hcz25_2 : w24.cell? ⟨gb260,2,none⟩ = some (.slice A0_2 l0_2.length c0_2):=(kC_ BK260.out 2).trans rfl;have hcz25_3 : w24.cell? ⟨gb260,3,none⟩ = some (.slice A0_3 l0_3.length c0_3):=(kC_ BK260.out 3).trans rfl;have hfz25_0:=kF_ BK260.out 0;have hfz25_1:=kF_ BK260.out 1;have hfz25_2:=kF_ BK260.out 2;have hfz25_3:=kF_ BK260.out 3) | ((with_reducible refine gate_callee (f:=70) rfl ?_);refine goesL_ (some 15) rfl rfl Tryd.func70 (by kernel_rfl) rfl #[.slice A0_1 l0_1.length c0_1,.int .i64 (wrap64 (a1 - (a0_0.size : Int)))] rfl (by (try simp only [mA_,mC_,mN_]);first | done | rfl | (simp only [lD_,lT_];rfl)) ?_;(with_reducible refine (laws_szColS.calls k _ _ l0_1 (wrap64 (a1 - (a0_0.size : Int))) t261 _ ?side1 ?side2 A6.out).mono ?_);(case side1=>repeat (first | exact (Kd.C_below HR0_1.out HB.out) | (with_reducible refine cA_ ?_ _) | (with_reducible refine cN_ ?_ _) | (with_reducible refine cD_ ?_)));(case side2=>exact HC0_1.out);rintro e w26 ⟨rfl,hb⟩;refine ⟨_,rfl,?_⟩;have n0_:=aM_ (blk_below (g:=gb260) (o:=.cells #[.string a0_0,.slice A0_1 l0_1.length c0_1,.slice A0_2 l0_2.length c0_2,.slice A0_3 l0_3.length c0_3] 46 (0,0)) (by exact kZ_ BK260) hb);have n1_:=aM_ (bT_ (by exact bZ_ HB) hb);clear BK260;clear HB;have BK260:=n0_;have HB:=n1_;clear n0_ n1_;(try clear hb);(try clear hb2);(try clear hk);(try clear hi);have hcz27_0 : w26.cell? ⟨gb260,0,none⟩ = some (.string a0_0):=(kC_ BK260.out 0).trans rfl;have hcz27_1 : w26.cell? ⟨gb260,1,none⟩ = some (.slice A0_1 l0_1.length c0_1):=(kC_ BK260.out 1).trans rfl;have hcz27_2 : w26.cell? ⟨gb260,2,none⟩ = some (.slice A0_2 l0_2.length c0_2):=(kC_ BK260.out 2).trans rfl;have hcz27_3 : w26.cell? ⟨gb260,3,none⟩ = some (.slice A0_3 l0_3.length c0_3):=(kC_ BK260.out 3).trans rfl;have hfz27_0:=kF_ BK260.out 0;have hfz27_1:=kF_ BK260.out 1;have hfz27_2:=kF_ BK260.out 2;have hfz27_3:=kF_ BK260.out 3) | ((with_reducible refine gate_callee (f:=71) rfl ?_);refine goesL_ (some 21) rfl rfl Tryd.func71 (by kernel_rfl) rfl #[.slice A0_2 l0_2.length c0_2,.int .i64 t261] rfl (by (try simp only [mA_,mC_,mN_]);first | done | rfl | (simp only [lD_,lT_];rfl)) ?_;(with_reducible refine (laws_szByS.calls _ _ l0_2 t261 t262 _ ?side1 ?side2 A11.out).mono ?_);(case side1=>repeat (first | exact (Kd.C_below HR0_2.out HB.out) | (with_reducible refine cA_ ?_ _) | (with_reducible refine cN_ ?_ _) | (with_reducible refine cD_ ?_)));(case side2=>exact HC0_2.out);rintro e w' ⟨rfl,⟨nd,rfl⟩⟩;refine ⟨_,rfl,?_⟩) | ((with_reducible refine gate_callee (f:=72) rfl ?_);refine goesL_ (some 27) rfl rfl Tryd.func72 (by kernel_rfl) rfl #[.slice A0_3 l0_3.length c0_3,.int .i64 t262] rfl (by (try simp only [mA_,mC_,mN_]);first | done | rfl | (simp only [lD_,lT_];rfl)) ?_;(with_reducible refine (laws_szIndexS.calls k _ _ l0_3 t262 t263 _ ?side1 ?side2 A17.out).mono ?_);(case side1=>repeat (first | exact (Kd.C_below HR0_3.out (by exact bZ_ HB)) | (with_reducible refine cA_ ?_ _) | (with_reducible refine cN_ ?_ _) | (with_reducible refine cD_ ?_)));(case side2=>exact HC0_3.out);rintro e w28 ⟨rfl,hb⟩;refine ⟨_,rfl,?_⟩;have n0_:=aM_ (blk_below (g:=gb260) (o:=.cells #[.string a0_0,.slice A0_1 l0_1.length c0_1,.slice A0_2 l0_2.length c0_2,.slice A0_3 l0_3.length c0_3] 46 (0,0)) (by exact kZ_ BK260) hb);have n1_:=aM_ (bT_ (by exact bZ_ HB) hb);clear BK260;clear HB;have BK260:=n0_;have HB:=n1_;clear n0_ n1_;(try clear hb);(try clear hb2);(try clear hk);(try clear hi)))
     go_ret
     exact ⟨by first | rfl | (simp [errW_none,errW_some] <;> rfl) | (simp [*, errW_none,errW_some] <;> rfl),by exact bZ_ HB⟩
def laws_toCol.f (a0_0 : ByteArray) (a0_1 : Int) (a0_2 : Bool) : Option (ByteArray × Int × Bool):=some (a0_0,a0_1,a0_2)
set_option maxHeartbeats 8000000 in
set_option maxRecDepth 100000 in
theorem laws_toCol.calls (a0_0 : ByteArray) (a0_1 : Int) (a0_2 : Bool) (r1 : ByteArray) (r2 : Int) (r3 : Bool) (w : World) (h : laws_toCol.f a0_0 a0_1 a0_2 = some (r1,r2,r3)) :
  Calls Tryd.prog 114 #[.agg #[.string a0_0,.int .i64 a0_1,.bool a0_2]] w fun e w'=>e = .returned (.agg #[.string r1,.int .i64 r2,.bool r3]) ∧ Below w.heap.size w w':=by
 have hu131:=Tryd.underlying131
 have hu82:=Tryd.underlying82
 have HB:=aM_ (Below.refl w.heap.size w)
 have H : (some (a0_0,a0_1,a0_2)) = some (r1,r2,r3):=h
 clear h
 simp only [Option.some.injEq,Prod.mk.injEq] at H
 obtain ⟨rfl,rfl,rfl⟩:=H
 go_enter Tryd.func114,Tryd.ntmps114
 go_wp2_with (first | ((with_reducible refine gate_dst (N:=1) rfl ?_);refine box_event ?hg (N:=1) ?hd (cs:=#[.string a0_0,.int .i64 a0_1,.bool a0_2]) (t:=131) ?hr ?_;(case hd=>rfl);(case hg=>rfl);(case hr=>first | (go_simp;done) | (go_simp;rfl));intro gb264 hg w2 hbox hb;have n0_:=aM_ (bT_ (by exact bZ_ HB) hb);have n1_:=aM_ (hbox);have n2_:=aM_ ((by rw [hg];exact (bS_ (by exact bZ_ HB)) : w.heap.size ≤ gb264));have n3_:=aM_ ((by rw [hg];exact (bS_ (by exact bZ_ HB)) : w.heap.size ≤ gb264));clear HB;have HB:=n0_;have BK264:=n1_;have GW264:=n2_;have GE264:=n3_;clear n0_ n1_ n2_ n3_;clear hb hbox hg) | ((with_reducible refine gate_dst (N:=2) rfl ?_);refine box_event ?hg (N:=2) ?hd (cs:=#[.string (⟨#[]⟩ : ByteArray),.int .i64 0,.bool false]) (t:=82) ?hr ?_;(case hd=>rfl);(case hg=>rfl);(case hr=>first | (go_simp;done) | (go_simp;rfl));intro gb265 hg w3 hbox hb;have n0_:=aM_ (blk_below (g:=gb264) (o:=.cells #[.string a0_0,.int .i64 a0_1,.bool a0_2] 131 (0,0)) (by exact kZ_ BK264) hb);have n1_:=aM_ (bT_ (by exact bZ_ HB) hb);have n2_:=aM_ (hbox);have n3_:=aM_ ((by rw [hg];exact (bS_ (by exact bZ_ HB)) : w.heap.size ≤ gb265));have n4_:=aM_ ((by rw [hg];exact (bS_ (by exact bZ_ HB)) : w.heap.size ≤ gb265));have n5_:=aM_ ((by rw [hg];exact nN_ (blk_lt (g:=gb264) (o:=.cells #[.string a0_0,.int .i64 a0_1,.bool a0_2] 131 (0,0)) (by exact kZ_ BK264)) : gb264 ≠ gb265));have n6_:=aM_ ((by rw [hg];exact Nat.ne_of_gt (blk_lt (g:=gb264) (o:=.cells #[.string a0_0,.int .i64 a0_1,.bool a0_2] 131 (0,0)) (by exact kZ_ BK264)) : gb265 ≠ gb264));clear BK264;clear HB;have BK264:=n0_;have HB:=n1_;have BK265:=n2_;have GW265:=n3_;have GE265:=n4_;have NB264_265:=n5_;have NB265_264:=n6_;clear n0_ n1_ n2_ n3_ n4_ n5_ n6_;clear hb hbox hg) | ((with_reducible refine gate_dst (N:=3) rfl ?_);refine box_event ?hg (N:=3) ?hd (cs:=#[.string (⟨#[]⟩ : ByteArray),.int .i64 0,.bool false]) (t:=82) ?hr ?_;(case hd=>rfl);(case hg=>rfl);(case hr=>first | (go_simp;done) | (go_simp;rfl));intro gb266 hg w4 hbox hb;have n0_:=aM_ (blk_below (g:=gb264) (o:=.cells #[.string a0_0,.int .i64 a0_1,.bool a0_2] 131 (0,0)) (by exact kZ_ BK264) hb);have n1_:=aM_ (blk_below (g:=gb265) (o:=.cells #[.string (⟨#[]⟩ : ByteArray),.int .i64 0,.bool false] 82 (0,0)) (by exact kZ_ BK265) hb);have n2_:=aM_ (bT_ (by exact bZ_ HB) hb);have n3_:=aM_ (hbox);have n4_:=aM_ ((by rw [hg];exact (bS_ (by exact bZ_ HB)) : w.heap.size ≤ gb266));have n5_:=aM_ ((by rw [hg];exact (bS_ (by exact bZ_ HB)) : w.heap.size ≤ gb266));have n6_:=aM_ ((by rw [hg];exact nN_ (blk_lt (g:=gb264) (o:=.cells #[.string a0_0,.int .i64 a0_1,.bool a0_2] 131 (0,0)) (by exact kZ_ BK264)) : gb264 ≠ gb266));have n7_:=aM_ ((by rw [hg];exact Nat.ne_of_gt (blk_lt (g:=gb264) (o:=.cells #[.string a0_0,.int .i64 a0_1,.bool a0_2] 131 (0,0)) (by exact kZ_ BK264)) : gb266 ≠ gb264));have n8_:=aM_ ((by rw [hg];exact nN_ (blk_lt (g:=gb265) (o:=.cells #[.string (⟨#[]⟩ : ByteArray),.int .i64 0,.bool false] 82 (0,0)) (by exact kZ_ BK265)) : gb265 ≠ gb266));have n9_:=aM_ ((by rw [hg];exact Nat.ne_of_gt (blk_lt (g:=gb265) (o:=.cells #[.string (⟨#[]⟩ : ByteArray),.int .i64 0,.bool false] 82 (0,0)) (by exact kZ_ BK265)) : gb266 ≠ gb265));clear BK264;clear BK265;clear HB;have BK264:=n0_;have BK265:=n1_;have HB:=n2_;have BK266:=n3_;have GW266:=n4_;have GE266:=n5_;have NB264_266:=n6_;have NB266_264:=n7_;have NB265_266:=n8_;have NB266_265:=n9_;clear n0_ n1_ n2_ n3_ n4_ n5_ n6_ n7_ n8_ n9_;clear hb hbox hg;have hnb5:=NB264_265.out;have hnc5:=NB265_264.out;have hnb6:=NB264_266.out;have hnc6:=NB266_264.out;have hcz7_0 : w4.cell? ⟨gb264,0,none⟩ = some (.string a0_0):=(kC_ BK264.out 0).trans rfl;have hcz7_1 : w4.cell? ⟨gb264,1,none⟩ = some (.int .i64 a0_1):=(kC_ BK264.out 1).trans rfl;have hcz7_2 : w4.cell? ⟨gb264,2,none⟩ = some (.bool a0_2):=(kC_ BK264.out 2).trans rfl;have hfz7_0:=kF_ BK264.out 0;have hfz7_1:=kF_ BK264.out 1;have hfz7_2:=kF_ BK264.out 2;have hnb8:=NB266_265.out;have hnc8:=NB265_266.out;have hcz9_0 : w4.cell? ⟨gb266,0,none⟩ = some (.string (⟨#[]⟩ : ByteArray)):=(kC_ BK266.out 0).trans rfl;have hcz9_1 : w4.cell? ⟨gb266,1,none⟩ = some (.int .i64 0):=(kC_ BK266.out 1).trans rfl;have hcz9_2 : w4.cell? ⟨gb266,2,none⟩ = some (.bool false):=(kC_ BK266.out 2).trans rfl;have hfz9_0:=kF_ BK266.out 0;have hfz9_1:=kF_ BK266.out 1;have hfz9_2:=kF_ BK266.out 2;have hcz10_0 : w4.cell? ⟨gb265,0,none⟩ = some (.string (⟨#[]⟩ : ByteArray)):=(kC_ BK265.out 0).trans rfl;have hcz10_1 : w4.cell? ⟨gb265,1,none⟩ = some (.int .i64 0):=(kC_ BK265.out 1).trans rfl;have hcz10_2 : w4.cell? ⟨gb265,2,none⟩ = some (.bool false):=(kC_ BK265.out 2).trans rfl;have hfz10_0:=kF_ BK265.out 0;have hfz10_1:=kF_ BK265.out 1;have hfz10_2:=kF_ BK265.out 2))
 refine bodyPost_ret (results_cell_row rfl _ _ gb265 82 #[.string a0_0,.int .i64 a0_1,.bool a0_2] (0,0) _ rfl (by (with_reducible repeat (first | refine kN_ ?_ _ | refine kD_ ?_ | refine kA_ ?_ _));refine kP_ (cs:=#[.string a0_0,.int .i64 a0_1,.bool false]) ?_ 2 _ rfl;(with_reducible repeat (first | refine kN_ ?_ _ | refine kD_ ?_ | refine kA_ ?_ _));refine kP_ (cs:=#[.string a0_0,.int .i64 0,.bool false]) ?_ 1 _ rfl;(with_reducible repeat (first | refine kN_ ?_ _ | refine kD_ ?_ | refine kA_ ?_ _));refine kP_ (cs:=#[.string (⟨#[]⟩ : ByteArray),.int .i64 0,.bool false]) ?_ 0 _ rfl;exact kW_ BK265) Tryd.underlying82 rfl (by kernel_rfl)) rfl ?_
 exact ⟨by first | rfl | (simp [errW_none,errW_some] <;> rfl) | (simp [*, errW_none,errW_some] <;> rfl),by exact bZ_ HB⟩
def laws_toColS.l0 : Nat → List (S131) → List (S82) → Int → Option ((List (S82)))
 | 0,_,_,_=>none
 | k + 1,x0,x3,x4=>if x4 < (x0.length : Int) then (if 0 ≤ x4 then ((laws_toCol.f ((rd_T131 x0 x4).f0) ((rd_T131 x0 x4).f1) ((rd_T131 x0 x4).f2)).bind fun bt271=>(if x4 < (x3.length : Int) then (laws_toColS.l0 k x0 (x3.set (x4 : Int).toNat (⟨bt271.1,bt271.2.1,bt271.2.2⟩ : S82)) (wrap64 (x4 + 1))) else (none))) else (none)) else (some x3)
def laws_toColS.f (k : Nat) (l0 : List (S131)) : Option ((List (S82))):=if 0 ≤ (l0.length : Int) then (if ((l0.length : Int) : Int).toNat ≤ 8796093022208 then (laws_toColS.l0 k l0 (List.replicate ((l0.length : Int) : Int).toNat z82) 0) else (none)) else (none)
theorem laws_toColS.mono_l : ∀ k,(∀ y0 y1 y2,LeO (laws_toColS.l0 k y0 y1 y2) (laws_toColS.l0 (k + 1) y0 y1 y2))
 | 0=>fun _ _ _ r h=>by simp [laws_toColS.l0] at h
 | k + 1=>by
  have ih0:=laws_toColS.mono_l k
  ·intro y0 y1 y2
   unfold laws_toColS.l0
   repeat' first
   | (with_reducible exact ih0 _ _ _)
   | (with_reducible exact LeO.refl _)
   | (with_reducible exact LeO.none _)
   | (with_reducible refine LeO.ite ?_ ?_)
   | (with_reducible refine LeO.bind ?_ (fun _=>?_))
   | exact ih0 _ _ _
   | exact LeO.none _
   | refine LeO.ite ?_ ?_
   | refine LeO.bind ?_ (fun _=>?_)
theorem laws_toColS.mono : ∀ a0 k,LeO (laws_toColS.f k a0) (laws_toColS.f (k + 1) a0):=by
 intro a0 k
 have ih0:=laws_toColS.mono_l k
 unfold laws_toColS.f
 repeat' first
   | (with_reducible exact ih0 _ _ _)
   | (with_reducible exact LeO.refl _)
   | (with_reducible exact LeO.none _)
   | (with_reducible refine LeO.ite ?_ ?_)
   | (with_reducible refine LeO.bind ?_ (fun _=>?_))
   | exact ih0 _ _ _
   | exact LeO.none _
   | refine LeO.ite ?_ ?_
   | refine LeO.bind ?_ (fun _=>?_)
set_option maxHeartbeats 8000000 in
set_option maxRecDepth 100000 in
theorem laws_toColS.calls (k : Nat) (A0 : Option Addr) (c0 : Nat) (l0 : List (S131)) (r : List (S82)) (w : World) (hr0 : Kd.C k131 w A0 l0.length l0) (hc0 : l0.length ≤ c0) (h : laws_toColS.f k l0 = some r) :
  Calls Tryd.prog 73 #[.slice A0 l0.length c0] w fun e w'=>∃ v0_ : Value,e = .returned (v0_) ∧ Kd.R k82 82 w' w.heap.size (fun _=>True) v0_ r ∧ Below w.heap.size w w':=by
 have hu131:=Tryd.underlying131
 have hu82:=Tryd.underlying82
 have HR0:=aM_ hr0
 have HC0:=aM_ hc0
 clear hr0 hc0
 have HB:=aM_ (Below.refl w.heap.size w)
 have H : (if 0 ≤ (l0.length : Int) then (if ((l0.length : Int) : Int).toNat ≤ 8796093022208 then (laws_toColS.l0 k l0 (List.replicate ((l0.length : Int) : Int).toNat z82) 0) else (none)) else (none)) = some r:=h
 clear h
 by_cases c2 : 0 ≤ (l0.length : Int)
 ·rw [if_pos c2] at H
  have c2b0:=eq_true c2
  have c2b1 : decide (0 ≤ (l0.length : Int)) = true:=decide_eq_true c2
  clear c2
  by_cases c3 : ((l0.length : Int) : Int).toNat ≤ 8796093022208
  ·rw [if_pos c3] at H
   have c3b0:=eq_true c3
   have c3b1 : decide (((l0.length : Int) : Int).toNat ≤ 8796093022208) = true:=decide_eq_true c3
   clear c3
   obtain ⟨y267,hy267⟩ : ∃ y_ : List (S82),y_ = (List.replicate ((l0.length : Int) : Int).toNat z82):=⟨_,rfl⟩
   replace H : (laws_toColS.l0 k l0 y267 0) = some r:=by first | (rw [hy267];with_reducible exact H) | (have H2_:=(Option.bind_some _ _).symm.trans H;rw [hy267];with_reducible exact H2_) | (have H2_:=(Option.bind_some _ _).symm.trans H;with_reducible exact H2_) | with_reducible exact H | (rw [hy267];exact H) | exact H
   have Ny267:=aM_ hy267
   clear hy267
   have H':=aM_ H
   clear H
   go_enter Tryd.func73,Tryd.ntmps73
   go_wp2_with (first | ((with_reducible refine gate_dst (N:=7) rfl ?_);refine Kd.R_make k82 _ 82 rfl (N:=7) rfl 31 _ _ rfl (l0.length : Int) rfl rfl Tryd.underlying31 (.agg #[(.string ⟨#[]⟩),(.int .i64 0),(.bool false)]) 32 info82 rfl (by decide) (by omega) z82 (ok:=fun _=>True) (okp:=fun _=>True) (k82_mkM _ _ _ z82 ) (fun _ hk=>hk) trivial (oT_ (by first | (with_reducible assumption) | assumption)) (Nat.le_trans (Nat.mul_le_mul_right _ (oT_ (by first | (with_reducible assumption) | assumption) : (l0.length : Int).toNat ≤ 8796093022208)) (by omega)) (Below.refl _ _) (Nat.le_refl _) ?_;intro v268 w4 ho5 hb hg_ hnew_;clear hg_ hnew_;(first | rw [← Ny267.out] at ho5 | (simp only [Int.reduceToNat] at ho5;rw [← Ny267.out] at ho5));have n0_:=aM_ (Kd.R_lower ho5 (bS_ (by exact bZ_ HB)));have n1_:=aM_ (bT_ (by exact bZ_ HB) hb);clear HB;have HO269:=n0_;have HB:=n1_;clear n0_ n1_;clear hb ho5))
   (try simp only [Act.put,sI_,sS_,sZ_])
   go_loopg [4] k (fun kq v4 w'=>∃ (x3_1 : List (S82)) (x4_1 : Int),v4 = .int .i64 x4_1 ∧ Aside0 (laws_toColS.l0 kq l0 x3_1 x4_1 = some r) ∧ Aside0 (kq ≤ k) ∧ Aside0 (Kd.R k82 82 w' w.heap.size (fun _=>True) v268 x3_1) ∧ Aside0 (Below w.heap.size w w'))
   case atStart=>exact ⟨(y267),(0),(by first | rfl | (simp;done) | (simp [*];done)),H', ⟨Nat.le_refl _⟩,⟨by exact rZ_ HO269⟩,⟨by exact bZ_ HB⟩⟩
   case round =>
    clear H'
    try clear c2
    try clear c2b0
    try clear c2b1
    try clear p2
    try clear c3
    try clear c3b0
    try clear c3b1
    obtain ⟨x3_1,x4_1,rfl,HA,HK1,HO_3,HB⟩:=hrel
    cases gk with
    | zero=>exact absurd HA.out (by simp [laws_toColS.l0])
    | succ k1 =>
     have H:=HA.out
     clear HA
     simp only [laws_toColS.l0] at H
     by_cases c6 : x4_1 < (l0.length : Int)
     ·rw [if_pos c6] at H
      have c6b0 : decide (x4_1 < (l0.length : Int)) = true:=decide_eq_true c6
      clear c6
      by_cases c7 : 0 ≤ x4_1
      ·rw [if_pos c7] at H
       have c7b0 : decide (0 ≤ x4_1) = true:=decide_eq_true c7
       clear c7
       replace H:=oB_ H
       obtain ⟨⟨t271,t272,t273⟩,A80,H⟩:=H
       replace H : (if x4_1 < (x3_1.length : Int) then (laws_toColS.l0 k1 l0 (x3_1.set (x4_1 : Int).toNat (⟨t271,t272,t273⟩ : S82)) (wrap64 (x4_1 + 1))) else (none)) = some r:=H
       have A8:=aM_ A80
       clear A80
       by_cases c9 : x4_1 < (x3_1.length : Int)
       ·rw [if_pos c9] at H
        have c9b0 : decide (x4_1 < (x3_1.length : Int)) = true:=decide_eq_true c9
        clear c9
        obtain ⟨y274,hy274⟩ : ∃ y_ : List (S82),y_ = (x3_1.set (x4_1 : Int).toNat (⟨t271,t272,t273⟩ : S82)):=⟨_,rfl⟩
        replace H : (laws_toColS.l0 k1 l0 y274 (wrap64 (x4_1 + 1))) = some r:=by first | (rw [hy274];with_reducible exact H) | (have H2_:=(Option.bind_some _ _).symm.trans H;rw [hy274];with_reducible exact H2_) | (have H2_:=(Option.bind_some _ _).symm.trans H;with_reducible exact H2_) | with_reducible exact H | (rw [hy274];exact H) | exact H
        have Ny274:=aM_ hy274
        clear hy274
        have H':=aM_ H
        clear H
        have p270 : 0 ≤ (x4_1 : Int):=oT_ (by first | (with_reducible assumption) | assumption)
        have q270 : x4_1 < (l0.length : Int):=oT_ (by first | (with_reducible assumption) | assumption)
        obtain ⟨ad270,e270,hx270_0,hx270_1,hx270_2⟩:=at_T131 HR0.out x4_1 p270 q270
        cases e270
        replace hx270_0:=(HB.out.cell (wL_ w _ hx270_0)).trans hx270_0
        replace hx270_1:=(HB.out.cell (wL_ w _ hx270_1)).trans hx270_1
        replace hx270_2:=(HB.out.cell (wL_ w _ hx270_2)).trans hx270_2
        replace p270:=eq_true p270
        replace q270:=eq_true q270
        go_wp2_with (first | ((with_reducible refine gate_callee (f:=114) rfl ?_);refine goesL_ (some 20) rfl rfl Tryd.func114 (by kernel_rfl) rfl #[.agg #[.string ((rd_T131 l0 x4_1).f0),.int .i64 ((rd_T131 l0 x4_1).f1),.bool ((rd_T131 l0 x4_1).f2)]] rfl (by (try simp only [mA_,mC_,mN_]);first | done | rfl | (simp only [lD_,lT_];rfl)) ?_;(with_reducible refine (laws_toCol.calls ((rd_T131 l0 x4_1).f0) ((rd_T131 l0 x4_1).f1) ((rd_T131 l0 x4_1).f2) t271 t272 t273 _ A8.out).mono ?_);rintro e w11 ⟨rfl,hb⟩;refine ⟨_,rfl,?_⟩;have n0_:=aM_ (Kd.R_below (by exact rZ_ HO_3) hb);have n1_:=aM_ (bT_ (by exact bZ_ HB) hb);clear HO_3;clear HB;have HO_3:=n0_;have HB:=n1_;clear n0_ n1_;(try clear hb);(try clear hb2);(try clear hk);(try clear hi);have p10 : 0 ≤ (x4_1 : Int):=oT_ (by first | (with_reducible assumption) | assumption);have q10 : (x4_1 : Int) < ((x3_1.length : Int) : Int):=oT_ (by first | (with_reducible assumption) | assumption);obtain ⟨go10,co10,eo10,gb10,gl10,cl10,HG10⟩:=Kd.R_form HO_3.out (by omega);(first | cases eo10 | (injection eo10 with ea_ en_ ec_;(first | subst ea_ | (injection ea_ with ea_;subst ea_));subst ec_;clear en_));have GB10:=aM_ gb10;have GG10:=aM_ HG10;clear gb10 gl10 HG10;obtain ⟨ce10,hcl10,hM10,hcc10,hfr10⟩:=Kd.R_elem HO_3.out z82 (x4_1 : Int) p10 q10;obtain rfl:=k82_openM hM10;have hx10_0 : w11.cell? ⟨go10,(x4_1 : Int).toNat * 3,none⟩ = some (.string ((rd_T82 x3_1 x4_1).f0)):=hcc10 0 _ rfl;have hx10_1 : w11.cell? ⟨go10,(x4_1 : Int).toNat * 3 + 1,none⟩ = some (.int .i64 ((rd_T82 x3_1 x4_1).f1)):=hcc10 1 _ rfl;have hx10_2 : w11.cell? ⟨go10,(x4_1 : Int).toNat * 3 + 2,none⟩ = some (.bool ((rd_T82 x3_1 x4_1).f2)):=hcc10 2 _ rfl;have hf10_0 : w11.frozen? ⟨go10,(x4_1 : Int).toNat * 3,none⟩ = false:=hfr10 0;have hf10_1 : w11.frozen? ⟨go10,(x4_1 : Int).toNat * 3 + 1,none⟩ = false:=hfr10 1;have hf10_2 : w11.frozen? ⟨go10,(x4_1 : Int).toNat * 3 + 2,none⟩ = false:=hfr10 2;(try clear hM10);clear hcl10 hcc10 hfr10;replace p10:=eq_true p10;replace q10:=eq_true q10;have HX12:=aM_ (show Kd.R k82 82 w11 w.heap.size (fun _=>True) (.slice (some ⟨go10,0,none⟩) x3_1.length co10) x3_1 from (by exact rZ_ HO_3));obtain ⟨ce12,hcl12,hM12,hcc12,hfr12⟩:=Kd.R_elem HX12.out z82 (x4_1 : Int) (oT_ (by first | (with_reducible assumption) | assumption)) (by have h_ : (x4_1 : Int) < ((x3_1.length : Int) : Int):=oT_ (by first | (with_reducible assumption) | assumption);first | exact h_ | (have e_:=(Kd.R_reads' HO_3.out).1;omega) | simpa using h_);obtain rfl:=k82_openM hM12;have HP12:=Kd.R_seg HX12.out (x4_1 : Int) (oT_ (by first | (with_reducible assumption) | assumption)) (by have h_ : (x4_1 : Int) < ((x3_1.length : Int) : Int):=oT_ (by first | (with_reducible assumption) | assumption);first | exact h_ | (have e_:=(Kd.R_reads' HO_3.out).1;omega) | simpa using h_) (seg:=[.string t271,.int .i64 t272,.bool t273]) (j:=0) hcl12 hcc12 (show 3 ≤ 3 from by decide) (x':=(⟨t271,t272,t273⟩ : S82)) (k82_mkM _ _ _ (⟨t271,t272,t273⟩ : S82) ) (fun _ hk=>hk);have hx12_0:=hcc12 0 _ rfl;(try simp only [show (k82).sz = 3 from rfl,Nat.mul_one,Nat.add_zero] at hx12_0);have hf12_0:=hfr12 0;(try simp only [show (k82).sz = 3 from rfl,Nat.mul_one,Nat.add_zero] at hf12_0);have hx12_1:=hcc12 1 _ rfl;(try simp only [show (k82).sz = 3 from rfl,Nat.mul_one,Nat.add_zero] at hx12_1);have hf12_1:=hfr12 1;(try simp only [show (k82).sz = 3 from rfl,Nat.mul_one,Nat.add_zero] at hf12_1);have hx12_2:=hcc12 2 _ rfl;(try simp only [show (k82).sz = 3 from rfl,Nat.mul_one,Nat.add_zero] at hx12_2);have hf12_2:=hfr12 2;(try simp only [show (k82).sz = 3 from rfl,Nat.mul_one,Nat.add_zero] at hf12_2);(try clear hM12);clear hcl12 hcc12 hfr12) | ((with_reducible refine gate_store (t:=82) (p:=21) rfl ?_);refine store_event (t:=82) (p:=21) (v:=?vo_w13) (w1:=(((w11.setCell ⟨go10,(x4_1 : Int).toNat * 3,none⟩ (.string t271)).setCell ⟨go10,(x4_1 : Int).toNat * 3 + 1,none⟩ (.int .i64 t272)).setCell ⟨go10,(x4_1 : Int).toNat * 3 + 2,none⟩ (.bool t273))) ?hg ?ho ?hn ?hr ?_;(case ho=>rfl);(case hg=>rfl);(case hn=>rfl);(case hr=>first | (go_simp;done) | (go_simp;rfl));intro w13 hw;have hg : w11.grownBy w13 (some go10):=(by rw [hw];exact HP12.2);have hp_ : Kd.R k82 82 w13 w.heap.size (fun _=>True) (.slice (some ⟨go10,0,none⟩) x3_1.length co10) y274:=(by rw [hw,Ny274.out];exact HP12.1);clear HP12;have n0_:=aM_ (hp_);have n1_:=aM_ ((by rw [hw];exact bE_ (bE_ (bE_ (HB.out) GB10.out) GB10.out) GB10.out : Below w.heap.size w w13));clear HO_3;clear HB;have HO_3:=n0_;have HB:=n1_;clear n0_ n1_;clear hg hw hp_))
        go_roundg k1
        case measure=>have:=HK1.out;omega
        case rel=>exact ⟨(y274),(wrap64 (x4_1 + 1)),(by first | rfl | (simp;done) | (simp [*];done)),H', ⟨by have:=HK1.out;omega⟩,⟨by exact rZ_ HO_3⟩,⟨by exact bZ_ HB⟩⟩
       ·rw [if_neg c9] at H
        exact absurd H (by simp)
      ·rw [if_neg c7] at H
       exact absurd H (by simp)
     ·rw [if_neg c6] at H
      have c6b0 : decide (x4_1 < (l0.length : Int)) = false:=decide_eq_false c6
      clear c6
      obtain rfl:=Option.some.inj H
      go_wp2
      go_ret
      exact ⟨_,by first | rfl | (simp [errW_none,errW_some] <;> rfl) | (simp [*, errW_none,errW_some] <;> rfl),by exact rZ_ HO_3,by exact bZ_ HB⟩
  ·rw [if_neg c3] at H
   exact absurd H (by simp)
 ·rw [if_neg c2] at H
  exact absurd H (by simp)
def laws_toBy.f (a0_0 : Int) (a0_1 : Bool) : Option (Int × Bool):=some (a0_0,a0_1)
set_option maxHeartbeats 8000000 in
set_option maxRecDepth 100000 in
theorem laws_toBy.calls (a0_0 : Int) (a0_1 : Bool) (r1 : Int) (r2 : Bool) (w : World) (h : laws_toBy.f a0_0 a0_1 = some (r1,r2)) :
  Calls Tryd.prog 115 #[.agg #[.int .i64 a0_0,.bool a0_1]] w fun e w'=>e = .returned (.agg #[.int .i64 r1,.bool r2]) ∧ Below w.heap.size w w':=by
 have hu137:=Tryd.underlying137
 have hu85:=Tryd.underlying85
 have HB:=aM_ (Below.refl w.heap.size w)
 have H : (some (a0_0,a0_1)) = some (r1,r2):=h
 clear h
 simp only [Option.some.injEq,Prod.mk.injEq] at H
 obtain ⟨rfl,rfl⟩:=H
 go_enter Tryd.func115,Tryd.ntmps115
 go_wp2_with (first | ((with_reducible refine gate_dst (N:=1) rfl ?_);refine box_event ?hg (N:=1) ?hd (cs:=#[.int .i64 a0_0,.bool a0_1]) (t:=137) ?hr ?_;(case hd=>rfl);(case hg=>rfl);(case hr=>first | (go_simp;done) | (go_simp;rfl));intro gb275 hg w2 hbox hb;have n0_:=aM_ (bT_ (by exact bZ_ HB) hb);have n1_:=aM_ (hbox);have n2_:=aM_ ((by rw [hg];exact (bS_ (by exact bZ_ HB)) : w.heap.size ≤ gb275));have n3_:=aM_ ((by rw [hg];exact (bS_ (by exact bZ_ HB)) : w.heap.size ≤ gb275));clear HB;have HB:=n0_;have BK275:=n1_;have GW275:=n2_;have GE275:=n3_;clear n0_ n1_ n2_ n3_;clear hb hbox hg) | ((with_reducible refine gate_dst (N:=2) rfl ?_);refine box_event ?hg (N:=2) ?hd (cs:=#[.int .i64 0,.bool false]) (t:=85) ?hr ?_;(case hd=>rfl);(case hg=>rfl);(case hr=>first | (go_simp;done) | (go_simp;rfl));intro gb276 hg w3 hbox hb;have n0_:=aM_ (blk_below (g:=gb275) (o:=.cells #[.int .i64 a0_0,.bool a0_1] 137 (0,0)) (by exact kZ_ BK275) hb);have n1_:=aM_ (bT_ (by exact bZ_ HB) hb);have n2_:=aM_ (hbox);have n3_:=aM_ ((by rw [hg];exact (bS_ (by exact bZ_ HB)) : w.heap.size ≤ gb276));have n4_:=aM_ ((by rw [hg];exact (bS_ (by exact bZ_ HB)) : w.heap.size ≤ gb276));have n5_:=aM_ ((by rw [hg];exact nN_ (blk_lt (g:=gb275) (o:=.cells #[.int .i64 a0_0,.bool a0_1] 137 (0,0)) (by exact kZ_ BK275)) : gb275 ≠ gb276));have n6_:=aM_ ((by rw [hg];exact Nat.ne_of_gt (blk_lt (g:=gb275) (o:=.cells #[.int .i64 a0_0,.bool a0_1] 137 (0,0)) (by exact kZ_ BK275)) : gb276 ≠ gb275));clear BK275;clear HB;have BK275:=n0_;have HB:=n1_;have BK276:=n2_;have GW276:=n3_;have GE276:=n4_;have NB275_276:=n5_;have NB276_275:=n6_;clear n0_ n1_ n2_ n3_ n4_ n5_ n6_;clear hb hbox hg) | ((with_reducible refine gate_dst (N:=3) rfl ?_);refine box_event ?hg (N:=3) ?hd (cs:=#[.int .i64 0,.bool false]) (t:=85) ?hr ?_;(case hd=>rfl);(case hg=>rfl);(case hr=>first | (go_simp;done) | (go_simp;rfl));intro gb277 hg w4 hbox hb;have n0_:=aM_ (blk_below (g:=gb275) (o:=.cells #[.int .i64 a0_0,.bool a0_1] 137 (0,0)) (by exact kZ_ BK275) hb);have n1_:=aM_ (blk_below (g:=gb276) (o:=.cells #[.int .i64 0,.bool false] 85 (0,0)) (by exact kZ_ BK276) hb);have n2_:=aM_ (bT_ (by exact bZ_ HB) hb);have n3_:=aM_ (hbox);have n4_:=aM_ ((by rw [hg];exact (bS_ (by exact bZ_ HB)) : w.heap.size ≤ gb277));have n5_:=aM_ ((by rw [hg];exact (bS_ (by exact bZ_ HB)) : w.heap.size ≤ gb277));have n6_:=aM_ ((by rw [hg];exact nN_ (blk_lt (g:=gb275) (o:=.cells #[.int .i64 a0_0,.bool a0_1] 137 (0,0)) (by exact kZ_ BK275)) : gb275 ≠ gb277));have n7_:=aM_ ((by rw [hg];exact Nat.ne_of_gt (blk_lt (g:=gb275) (o:=.cells #[.int .i64 a0_0,.bool a0_1] 137 (0,0)) (by exact kZ_ BK275)) : gb277 ≠ gb275));have n8_:=aM_ ((by rw [hg];exact nN_ (blk_lt (g:=gb276) (o:=.cells #[.int .i64 0,.bool false] 85 (0,0)) (by exact kZ_ BK276)) : gb276 ≠ gb277));have n9_:=aM_ ((by rw [hg];exact Nat.ne_of_gt (blk_lt (g:=gb276) (o:=.cells #[.int .i64 0,.bool false] 85 (0,0)) (by exact kZ_ BK276)) : gb277 ≠ gb276));clear BK275;clear BK276;clear HB;have BK275:=n0_;have BK276:=n1_;have HB:=n2_;have BK277:=n3_;have GW277:=n4_;have GE277:=n5_;have NB275_277:=n6_;have NB277_275:=n7_;have NB276_277:=n8_;have NB277_276:=n9_;clear n0_ n1_ n2_ n3_ n4_ n5_ n6_ n7_ n8_ n9_;clear hb hbox hg;have hnb5:=NB275_276.out;have hnc5:=NB276_275.out;have hnb6:=NB275_277.out;have hnc6:=NB277_275.out;have hcz7_0 : w4.cell? ⟨gb275,0,none⟩ = some (.int .i64 a0_0):=(kC_ BK275.out 0).trans rfl;have hcz7_1 : w4.cell? ⟨gb275,1,none⟩ = some (.bool a0_1):=(kC_ BK275.out 1).trans rfl;have hfz7_0:=kF_ BK275.out 0;have hfz7_1:=kF_ BK275.out 1;have hnb8:=NB277_276.out;have hnc8:=NB276_277.out;have hcz9_0 : w4.cell? ⟨gb277,0,none⟩ = some (.int .i64 0):=(kC_ BK277.out 0).trans rfl;have hcz9_1 : w4.cell? ⟨gb277,1,none⟩ = some (.bool false):=(kC_ BK277.out 1).trans rfl;have hfz9_0:=kF_ BK277.out 0;have hfz9_1:=kF_ BK277.out 1;have hcz10_0 : w4.cell? ⟨gb276,0,none⟩ = some (.int .i64 0):=(kC_ BK276.out 0).trans rfl;have hcz10_1 : w4.cell? ⟨gb276,1,none⟩ = some (.bool false):=(kC_ BK276.out 1).trans rfl;have hfz10_0:=kF_ BK276.out 0;have hfz10_1:=kF_ BK276.out 1))
 refine bodyPost_ret (results_cell_row rfl _ _ gb276 85 #[.int .i64 a0_0,.bool a0_1] (0,0) _ rfl (by (with_reducible repeat (first | refine kN_ ?_ _ | refine kD_ ?_ | refine kA_ ?_ _));refine kP_ (cs:=#[.int .i64 a0_0,.bool false]) ?_ 1 _ rfl;(with_reducible repeat (first | refine kN_ ?_ _ | refine kD_ ?_ | refine kA_ ?_ _));refine kP_ (cs:=#[.int .i64 0,.bool false]) ?_ 0 _ rfl;exact kW_ BK276) Tryd.underlying85 rfl (by kernel_rfl)) rfl ?_
 exact ⟨by first | rfl | (simp [errW_none,errW_some] <;> rfl) | (simp [*, errW_none,errW_some] <;> rfl),by exact bZ_ HB⟩
def laws_toByS.l0 : Nat → List (S137) → List (S85) → Int → Option ((List (S85)))
 | 0,_,_,_=>none
 | k + 1,x0,x3,x4=>if x4 < (x0.length : Int) then (if 0 ≤ x4 then ((laws_toBy.f ((rd_T137 x0 x4).f0) ((rd_T137 x0 x4).f1)).bind fun bt282=>(if x4 < (x3.length : Int) then (laws_toByS.l0 k x0 (x3.set (x4 : Int).toNat (⟨bt282.1,bt282.2⟩ : S85)) (wrap64 (x4 + 1))) else (none))) else (none)) else (some x3)
def laws_toByS.f (k : Nat) (l0 : List (S137)) : Option ((List (S85))):=if 0 ≤ (l0.length : Int) then (if ((l0.length : Int) : Int).toNat ≤ 17592186044416 then (laws_toByS.l0 k l0 (List.replicate ((l0.length : Int) : Int).toNat z85) 0) else (none)) else (none)
theorem laws_toByS.mono_l : ∀ k,(∀ y0 y1 y2,LeO (laws_toByS.l0 k y0 y1 y2) (laws_toByS.l0 (k + 1) y0 y1 y2))
 | 0=>fun _ _ _ r h=>by simp [laws_toByS.l0] at h
 | k + 1=>by
  have ih0:=laws_toByS.mono_l k
  ·intro y0 y1 y2
   unfold laws_toByS.l0
   repeat' first
   | (with_reducible exact ih0 _ _ _)
   | (with_reducible exact LeO.refl _)
   | (with_reducible exact LeO.none _)
   | (with_reducible refine LeO.ite ?_ ?_)
   | (with_reducible refine LeO.bind ?_ (fun _=>?_))
   | exact ih0 _ _ _
   | exact LeO.none _
   | refine LeO.ite ?_ ?_
   | refine LeO.bind ?_ (fun _=>?_)
theorem laws_toByS.mono : ∀ a0 k,LeO (laws_toByS.f k a0) (laws_toByS.f (k + 1) a0):=by
 intro a0 k
 have ih0:=laws_toByS.mono_l k
 unfold laws_toByS.f
 repeat' first
   | (with_reducible exact ih0 _ _ _)
   | (with_reducible exact LeO.refl _)
   | (with_reducible exact LeO.none _)
   | (with_reducible refine LeO.ite ?_ ?_)
   | (with_reducible refine LeO.bind ?_ (fun _=>?_))
   | exact ih0 _ _ _
   | exact LeO.none _
   | refine LeO.ite ?_ ?_
   | refine LeO.bind ?_ (fun _=>?_)
set_option maxHeartbeats 8000000 in
set_option maxRecDepth 100000 in
theorem laws_toByS.calls (k : Nat) (A0 : Option Addr) (c0 : Nat) (l0 : List (S137)) (r : List (S85)) (w : World) (hr0 : Kd.C k137 w A0 l0.length l0) (hc0 : l0.length ≤ c0) (h : laws_toByS.f k l0 = some r) :
  Calls Tryd.prog 74 #[.slice A0 l0.length c0] w fun e w'=>∃ v0_ : Value,e = .returned (v0_) ∧ Kd.R k85 85 w' w.heap.size (fun _=>True) v0_ r ∧ Below w.heap.size w w':=by
 have hu137:=Tryd.underlying137
 have hu85:=Tryd.underlying85
 have HR0:=aM_ hr0
 have HC0:=aM_ hc0
 clear hr0 hc0
 have HB:=aM_ (Below.refl w.heap.size w)
 have H : (if 0 ≤ (l0.length : Int) then (if ((l0.length : Int) : Int).toNat ≤ 17592186044416 then (laws_toByS.l0 k l0 (List.replicate ((l0.length : Int) : Int).toNat z85) 0) else (none)) else (none)) = some r:=h
 clear h
 by_cases c2 : 0 ≤ (l0.length : Int)
 ·rw [if_pos c2] at H
  have c2b0:=eq_true c2
  have c2b1 : decide (0 ≤ (l0.length : Int)) = true:=decide_eq_true c2
  clear c2
  by_cases c3 : ((l0.length : Int) : Int).toNat ≤ 17592186044416
  ·rw [if_pos c3] at H
   have c3b0:=eq_true c3
   have c3b1 : decide (((l0.length : Int) : Int).toNat ≤ 17592186044416) = true:=decide_eq_true c3
   clear c3
   obtain ⟨y278,hy278⟩ : ∃ y_ : List (S85),y_ = (List.replicate ((l0.length : Int) : Int).toNat z85):=⟨_,rfl⟩
   replace H : (laws_toByS.l0 k l0 y278 0) = some r:=by first | (rw [hy278];with_reducible exact H) | (have H2_:=(Option.bind_some _ _).symm.trans H;rw [hy278];with_reducible exact H2_) | (have H2_:=(Option.bind_some _ _).symm.trans H;with_reducible exact H2_) | with_reducible exact H | (rw [hy278];exact H) | exact H
   have Ny278:=aM_ hy278
   clear hy278
   have H':=aM_ H
   clear H
   go_enter Tryd.func74,Tryd.ntmps74
   go_wp2_with (first | ((with_reducible refine gate_dst (N:=7) rfl ?_);refine Kd.R_make k85 _ 85 rfl (N:=7) rfl 32 _ _ rfl (l0.length : Int) rfl rfl Tryd.underlying32 (.agg #[(.int .i64 0),(.bool false)]) 16 info85 rfl (by decide) (by omega) z85 (ok:=fun _=>True) (okp:=fun _=>True) (k85_mkM _ _ _ z85 ) (fun _ hk=>hk) trivial (oT_ (by first | (with_reducible assumption) | assumption)) (Nat.le_trans (Nat.mul_le_mul_right _ (oT_ (by first | (with_reducible assumption) | assumption) : (l0.length : Int).toNat ≤ 17592186044416)) (by omega)) (Below.refl _ _) (Nat.le_refl _) ?_;intro v279 w4 ho5 hb hg_ hnew_;clear hg_ hnew_;(first | rw [← Ny278.out] at ho5 | (simp only [Int.reduceToNat] at ho5;rw [← Ny278.out] at ho5));have n0_:=aM_ (Kd.R_lower ho5 (bS_ (by exact bZ_ HB)));have n1_:=aM_ (bT_ (by exact bZ_ HB) hb);clear HB;have HO280:=n0_;have HB:=n1_;clear n0_ n1_;clear hb ho5))
   (try simp only [Act.put,sI_,sS_,sZ_])
   go_loopg [4] k (fun kq v4 w'=>∃ (x3_1 : List (S85)) (x4_1 : Int),v4 = .int .i64 x4_1 ∧ Aside0 (laws_toByS.l0 kq l0 x3_1 x4_1 = some r) ∧ Aside0 (kq ≤ k) ∧ Aside0 (Kd.R k85 85 w' w.heap.size (fun _=>True) v279 x3_1) ∧ Aside0 (Below w.heap.size w w'))
   case atStart=>exact ⟨(y278),(0),(by first | rfl | (simp;done) | (simp [*];done)),H', ⟨Nat.le_refl _⟩,⟨by exact rZ_ HO280⟩,⟨by exact bZ_ HB⟩⟩
   case round =>
    clear H'
    try clear c2
    try clear c2b0
    try clear c2b1
    try clear p2
    try clear c3
    try clear c3b0
    try clear c3b1
    obtain ⟨x3_1,x4_1,rfl,HA,HK1,HO_3,HB⟩:=hrel
    cases gk with
    | zero=>exact absurd HA.out (by simp [laws_toByS.l0])
    | succ k1 =>
     have H:=HA.out
     clear HA
     simp only [laws_toByS.l0] at H
     by_cases c6 : x4_1 < (l0.length : Int)
     ·rw [if_pos c6] at H
      have c6b0 : decide (x4_1 < (l0.length : Int)) = true:=decide_eq_true c6
      clear c6
      by_cases c7 : 0 ≤ x4_1
      ·rw [if_pos c7] at H
       have c7b0 : decide (0 ≤ x4_1) = true:=decide_eq_true c7
       clear c7
       replace H:=oB_ H
       obtain ⟨⟨t282,t283⟩,A80,H⟩:=H
       replace H : (if x4_1 < (x3_1.length : Int) then (laws_toByS.l0 k1 l0 (x3_1.set (x4_1 : Int).toNat (⟨t282,t283⟩ : S85)) (wrap64 (x4_1 + 1))) else (none)) = some r:=H
       have A8:=aM_ A80
       clear A80
       by_cases c9 : x4_1 < (x3_1.length : Int)
       ·rw [if_pos c9] at H
        have c9b0 : decide (x4_1 < (x3_1.length : Int)) = true:=decide_eq_true c9
        clear c9
        obtain ⟨y284,hy284⟩ : ∃ y_ : List (S85),y_ = (x3_1.set (x4_1 : Int).toNat (⟨t282,t283⟩ : S85)):=⟨_,rfl⟩
        replace H : (laws_toByS.l0 k1 l0 y284 (wrap64 (x4_1 + 1))) = some r:=by first | (rw [hy284];with_reducible exact H) | (have H2_:=(Option.bind_some _ _).symm.trans H;rw [hy284];with_reducible exact H2_) | (have H2_:=(Option.bind_some _ _).symm.trans H;with_reducible exact H2_) | with_reducible exact H | (rw [hy284];exact H) | exact H
        have Ny284:=aM_ hy284
        clear hy284
        have H':=aM_ H
        clear H
        have p281 : 0 ≤ (x4_1 : Int):=oT_ (by first | (with_reducible assumption) | assumption)
        have q281 : x4_1 < (l0.length : Int):=oT_ (by first | (with_reducible assumption) | assumption)
        obtain ⟨ad281,e281,hx281_0,hx281_1⟩:=at_T137 HR0.out x4_1 p281 q281
        cases e281
        replace hx281_0:=(HB.out.cell (wL_ w _ hx281_0)).trans hx281_0
        replace hx281_1:=(HB.out.cell (wL_ w _ hx281_1)).trans hx281_1
        replace p281:=eq_true p281
        replace q281:=eq_true q281
        go_wp2_with (first | ((with_reducible refine gate_callee (f:=115) rfl ?_);refine goesL_ (some 20) rfl rfl Tryd.func115 (by kernel_rfl) rfl #[.agg #[.int .i64 ((rd_T137 l0 x4_1).f0),.bool ((rd_T137 l0 x4_1).f1)]] rfl (by (try simp only [mA_,mC_,mN_]);first | done | rfl | (simp only [lD_,lT_];rfl)) ?_;(with_reducible refine (laws_toBy.calls ((rd_T137 l0 x4_1).f0) ((rd_T137 l0 x4_1).f1) t282 t283 _ A8.out).mono ?_);rintro e w11 ⟨rfl,hb⟩;refine ⟨_,rfl,?_⟩;have n0_:=aM_ (Kd.R_below (by exact rZ_ HO_3) hb);have n1_:=aM_ (bT_ (by exact bZ_ HB) hb);clear HO_3;clear HB;have HO_3:=n0_;have HB:=n1_;clear n0_ n1_;(try clear hb);(try clear hb2);(try clear hk);(try clear hi);have p10 : 0 ≤ (x4_1 : Int):=oT_ (by first | (with_reducible assumption) | assumption);have q10 : (x4_1 : Int) < ((x3_1.length : Int) : Int):=oT_ (by first | (with_reducible assumption) | assumption);obtain ⟨go10,co10,eo10,gb10,gl10,cl10,HG10⟩:=Kd.R_form HO_3.out (by omega);(first | cases eo10 | (injection eo10 with ea_ en_ ec_;(first | subst ea_ | (injection ea_ with ea_;subst ea_));subst ec_;clear en_));have GB10:=aM_ gb10;have GG10:=aM_ HG10;clear gb10 gl10 HG10;obtain ⟨ce10,hcl10,hM10,hcc10,hfr10⟩:=Kd.R_elem HO_3.out z85 (x4_1 : Int) p10 q10;obtain rfl:=k85_openM hM10;have hx10_0 : w11.cell? ⟨go10,(x4_1 : Int).toNat * 2,none⟩ = some (.int .i64 ((rd_T85 x3_1 x4_1).f0)):=hcc10 0 _ rfl;have hx10_1 : w11.cell? ⟨go10,(x4_1 : Int).toNat * 2 + 1,none⟩ = some (.bool ((rd_T85 x3_1 x4_1).f1)):=hcc10 1 _ rfl;have hf10_0 : w11.frozen? ⟨go10,(x4_1 : Int).toNat * 2,none⟩ = false:=hfr10 0;have hf10_1 : w11.frozen? ⟨go10,(x4_1 : Int).toNat * 2 + 1,none⟩ = false:=hfr10 1;(try clear hM10);clear hcl10 hcc10 hfr10;replace p10:=eq_true p10;replace q10:=eq_true q10;have HX12:=aM_ (show Kd.R k85 85 w11 w.heap.size (fun _=>True) (.slice (some ⟨go10,0,none⟩) x3_1.length co10) x3_1 from (by exact rZ_ HO_3));obtain ⟨ce12,hcl12,hM12,hcc12,hfr12⟩:=Kd.R_elem HX12.out z85 (x4_1 : Int) (oT_ (by first | (with_reducible assumption) | assumption)) (by have h_ : (x4_1 : Int) < ((x3_1.length : Int) : Int):=oT_ (by first | (with_reducible assumption) | assumption);first | exact h_ | (have e_:=(Kd.R_reads' HO_3.out).1;omega) | simpa using h_);obtain rfl:=k85_openM hM12;have HP12:=Kd.R_seg HX12.out (x4_1 : Int) (oT_ (by first | (with_reducible assumption) | assumption)) (by have h_ : (x4_1 : Int) < ((x3_1.length : Int) : Int):=oT_ (by first | (with_reducible assumption) | assumption);first | exact h_ | (have e_:=(Kd.R_reads' HO_3.out).1;omega) | simpa using h_) (seg:=[.int .i64 t282,.bool t283]) (j:=0) hcl12 hcc12 (show 2 ≤ 2 from by decide) (x':=(⟨t282,t283⟩ : S85)) (k85_mkM _ _ _ (⟨t282,t283⟩ : S85) ) (fun _ hk=>hk);have hx12_0:=hcc12 0 _ rfl;(try simp only [show (k85).sz = 2 from rfl,Nat.mul_one,Nat.add_zero] at hx12_0);have hf12_0:=hfr12 0;(try simp only [show (k85).sz = 2 from rfl,Nat.mul_one,Nat.add_zero] at hf12_0);have hx12_1:=hcc12 1 _ rfl;(try simp only [show (k85).sz = 2 from rfl,Nat.mul_one,Nat.add_zero] at hx12_1);have hf12_1:=hfr12 1;(try simp only [show (k85).sz = 2 from rfl,Nat.mul_one,Nat.add_zero] at hf12_1);(try clear hM12);clear hcl12 hcc12 hfr12) | ((with_reducible refine gate_store (t:=85) (p:=21) rfl ?_);refine store_event (t:=85) (p:=21) (v:=?vo_w13) (w1:=((w11.setCell ⟨go10,(x4_1 : Int).toNat * 2,none⟩ (.int .i64 t282)).setCell ⟨go10,(x4_1 : Int).toNat * 2 + 1,none⟩ (.bool t283))) ?hg ?ho ?hn ?hr ?_;(case ho=>rfl);(case hg=>rfl);(case hn=>rfl);(case hr=>first | (go_simp;done) | (go_simp;rfl));intro w13 hw;have hg : w11.grownBy w13 (some go10):=(by rw [hw];exact HP12.2);have hp_ : Kd.R k85 85 w13 w.heap.size (fun _=>True) (.slice (some ⟨go10,0,none⟩) x3_1.length co10) y284:=(by rw [hw,Ny284.out];exact HP12.1);clear HP12;have n0_:=aM_ (hp_);have n1_:=aM_ ((by rw [hw];exact bE_ (bE_ (HB.out) GB10.out) GB10.out : Below w.heap.size w w13));clear HO_3;clear HB;have HO_3:=n0_;have HB:=n1_;clear n0_ n1_;clear hg hw hp_))
        go_roundg k1
        case measure=>have:=HK1.out;omega
        case rel=>exact ⟨(y284),(wrap64 (x4_1 + 1)),(by first | rfl | (simp;done) | (simp [*];done)),H', ⟨by have:=HK1.out;omega⟩,⟨by exact rZ_ HO_3⟩,⟨by exact bZ_ HB⟩⟩
       ·rw [if_neg c9] at H
        exact absurd H (by simp)
      ·rw [if_neg c7] at H
       exact absurd H (by simp)
     ·rw [if_neg c6] at H
      have c6b0 : decide (x4_1 < (l0.length : Int)) = false:=decide_eq_false c6
      clear c6
      obtain rfl:=Option.some.inj H
      go_wp2
      go_ret
      exact ⟨_,by first | rfl | (simp [errW_none,errW_some] <;> rfl) | (simp [*, errW_none,errW_some] <;> rfl),by exact rZ_ HO_3,by exact bZ_ HB⟩
  ·rw [if_neg c3] at H
   exact absurd H (by simp)
 ·rw [if_neg c2] at H
  exact absurd H (by simp)
def laws_toIndex.f (k : Nat) (a0_0 : ByteArray) (a0_1 : Bool) (l0_2 : List (S137)) : Option (ByteArray × Bool × (List (S85))):=(laws_toByS.f k l0_2).bind fun t288=>(some (a0_0,a0_1,t288))
theorem laws_toIndex.mono : ∀ a0 a1 a2 k,LeO (laws_toIndex.f k a0 a1 a2) (laws_toIndex.f (k + 1) a0 a1 a2):=by
 intro a0 a1 a2 k
 unfold laws_toIndex.f
 repeat' first
   | (with_reducible exact laws_toByS.mono _ _)
   | (with_reducible exact LeO.refl _)
   | (with_reducible exact LeO.none _)
   | (with_reducible refine LeO.ite ?_ ?_)
   | (with_reducible refine LeO.bind ?_ (fun _=>?_))
   | exact laws_toByS.mono _ _
   | exact LeO.none _
   | refine LeO.ite ?_ ?_
   | refine LeO.bind ?_ (fun _=>?_)
set_option maxHeartbeats 8000000 in
set_option maxRecDepth 100000 in
theorem laws_toIndex.calls (k : Nat) (a0_0 : ByteArray) (a0_1 : Bool) (A0_2 : Option Addr) (c0_2 : Nat) (l0_2 : List (S137)) (r1 : ByteArray) (r2 : Bool) (r3 : List (S85)) (w : World) (hr0_2 : Kd.C k137 w A0_2 l0_2.length l0_2) (hc0_2 : l0_2.length ≤ c0_2) (h : laws_toIndex.f k a0_0 a0_1 l0_2 = some (r1,r2,r3)) :
  Calls Tryd.prog 116 #[.agg #[.string a0_0,.bool a0_1,.slice A0_2 l0_2.length c0_2]] w fun e w'=>∃ v2_ : Value,e = .returned (.agg #[.string r1,.bool r2,v2_]) ∧ Kd.R k85 85 w' w.heap.size (fun _=>True) v2_ r3 ∧ Below w.heap.size w w':=by
 have hu134:=Tryd.underlying134
 have hu69:=Tryd.underlying69
 have HR0_2:=aM_ hr0_2
 have HC0_2:=aM_ hc0_2
 clear hr0_2 hc0_2
 have HB:=aM_ (Below.refl w.heap.size w)
 have H : ((laws_toByS.f k l0_2).bind fun t288=>(some (a0_0,a0_1,t288))) = some (r1,r2,r3):=h
 clear h
 replace H:=oB_ H
 obtain ⟨t288,A20,H⟩:=H
 replace H : (some (a0_0,a0_1,t288)) = some (r1,r2,r3):=H
 have A2:=aM_ A20
 clear A20
 simp only [Option.some.injEq,Prod.mk.injEq] at H
 obtain ⟨rfl,rfl,rfl⟩:=H
 go_enter Tryd.func116,Tryd.ntmps116
 go_wp2_with (first | ((with_reducible refine gate_dst (N:=1) rfl ?_);refine box_event ?hg (N:=1) ?hd (cs:=#[.string a0_0,.bool a0_1,.slice A0_2 l0_2.length c0_2]) (t:=134) ?hr ?_;(case hd=>rfl);(case hg=>rfl);(case hr=>first | (go_simp;done) | (go_simp;rfl));intro gb285 hg w3 hbox hb;have n0_:=aM_ (bT_ (by exact bZ_ HB) hb);have n1_:=aM_ (hbox);have n2_:=aM_ ((by rw [hg];exact (bS_ (by exact bZ_ HB)) : w.heap.size ≤ gb285));have n3_:=aM_ ((by rw [hg];exact (bS_ (by exact bZ_ HB)) : w.heap.size ≤ gb285));clear HB;have HB:=n0_;have BK285:=n1_;have GW285:=n2_;have GE285:=n3_;clear n0_ n1_ n2_ n3_;clear hb hbox hg) | ((with_reducible refine gate_dst (N:=2) rfl ?_);refine box_event ?hg (N:=2) ?hd (cs:=#[.string (⟨#[]⟩ : ByteArray),.bool false,.slice none 0 0]) (t:=69) ?hr ?_;(case hd=>rfl);(case hg=>rfl);(case hr=>first | (go_simp;done) | (go_simp;rfl));intro gb286 hg w4 hbox hb;have n0_:=aM_ (blk_below (g:=gb285) (o:=.cells #[.string a0_0,.bool a0_1,.slice A0_2 l0_2.length c0_2] 134 (0,0)) (by exact kZ_ BK285) hb);have n1_:=aM_ (bT_ (by exact bZ_ HB) hb);have n2_:=aM_ (hbox);have n3_:=aM_ ((by rw [hg];exact (bS_ (by exact bZ_ HB)) : w.heap.size ≤ gb286));have n4_:=aM_ ((by rw [hg];exact (bS_ (by exact bZ_ HB)) : w.heap.size ≤ gb286));have n5_:=aM_ ((by rw [hg];exact nN_ (blk_lt (g:=gb285) (o:=.cells #[.string a0_0,.bool a0_1,.slice A0_2 l0_2.length c0_2] 134 (0,0)) (by exact kZ_ BK285)) : gb285 ≠ gb286));have n6_:=aM_ ((by rw [hg];exact Nat.ne_of_gt (blk_lt (g:=gb285) (o:=.cells #[.string a0_0,.bool a0_1,.slice A0_2 l0_2.length c0_2] 134 (0,0)) (by exact kZ_ BK285)) : gb286 ≠ gb285));clear BK285;clear HB;have BK285:=n0_;have HB:=n1_;have BK286:=n2_;have GW286:=n3_;have GE286:=n4_;have NB285_286:=n5_;have NB286_285:=n6_;clear n0_ n1_ n2_ n3_ n4_ n5_ n6_;clear hb hbox hg) | ((with_reducible refine gate_dst (N:=3) rfl ?_);refine box_event ?hg (N:=3) ?hd (cs:=#[.string (⟨#[]⟩ : ByteArray),.bool false,.slice none 0 0]) (t:=69) ?hr ?_;(case hd=>rfl);(case hg=>rfl);(case hr=>first | (go_simp;done) | (go_simp;rfl));intro gb287 hg w5 hbox hb;have n0_:=aM_ (blk_below (g:=gb285) (o:=.cells #[.string a0_0,.bool a0_1,.slice A0_2 l0_2.length c0_2] 134 (0,0)) (by exact kZ_ BK285) hb);have n1_:=aM_ (blk_below (g:=gb286) (o:=.cells #[.string (⟨#[]⟩ : ByteArray),.bool false,.slice none 0 0] 69 (0,0)) (by exact kZ_ BK286) hb);have n2_:=aM_ (bT_ (by exact bZ_ HB) hb);have n3_:=aM_ (hbox);have n4_:=aM_ ((by rw [hg];exact (bS_ (by exact bZ_ HB)) : w.heap.size ≤ gb287));have n5_:=aM_ ((by rw [hg];exact (bS_ (by exact bZ_ HB)) : w.heap.size ≤ gb287));have n6_:=aM_ ((by rw [hg];exact nN_ (blk_lt (g:=gb285) (o:=.cells #[.string a0_0,.bool a0_1,.slice A0_2 l0_2.length c0_2] 134 (0,0)) (by exact kZ_ BK285)) : gb285 ≠ gb287));have n7_:=aM_ ((by rw [hg];exact Nat.ne_of_gt (blk_lt (g:=gb285) (o:=.cells #[.string a0_0,.bool a0_1,.slice A0_2 l0_2.length c0_2] 134 (0,0)) (by exact kZ_ BK285)) : gb287 ≠ gb285));have n8_:=aM_ ((by rw [hg];exact nN_ (blk_lt (g:=gb286) (o:=.cells #[.string (⟨#[]⟩ : ByteArray),.bool false,.slice none 0 0] 69 (0,0)) (by exact kZ_ BK286)) : gb286 ≠ gb287));have n9_:=aM_ ((by rw [hg];exact Nat.ne_of_gt (blk_lt (g:=gb286) (o:=.cells #[.string (⟨#[]⟩ : ByteArray),.bool false,.slice none 0 0] 69 (0,0)) (by exact kZ_ BK286)) : gb287 ≠ gb286));clear BK285;clear BK286;clear HB;have BK285:=n0_;have BK286:=n1_;have HB:=n2_;have BK287:=n3_;have GW287:=n4_;have GE287:=n5_;have NB285_287:=n6_;have NB287_285:=n7_;have NB286_287:=n8_;have NB287_286:=n9_;clear n0_ n1_ n2_ n3_ n4_ n5_ n6_ n7_ n8_ n9_;clear hb hbox hg;have hnb6:=NB285_286.out;have hnc6:=NB286_285.out;have hnb7:=NB285_287.out;have hnc7:=NB287_285.out;have hcz8_0 : w5.cell? ⟨gb285,0,none⟩ = some (.string a0_0):=(kC_ BK285.out 0).trans rfl;have hcz8_1 : w5.cell? ⟨gb285,1,none⟩ = some (.bool a0_1):=(kC_ BK285.out 1).trans rfl;have hcz8_2 : w5.cell? ⟨gb285,2,none⟩ = some (.slice A0_2 l0_2.length c0_2):=(kC_ BK285.out 2).trans rfl;have hfz8_0:=kF_ BK285.out 0;have hfz8_1:=kF_ BK285.out 1;have hfz8_2:=kF_ BK285.out 2;have hnb9:=NB287_286.out;have hnc9:=NB286_287.out;have hcz10_0 : w5.cell? ⟨gb287,0,none⟩ = some (.string (⟨#[]⟩ : ByteArray)):=(kC_ BK287.out 0).trans rfl;have hcz10_1 : w5.cell? ⟨gb287,1,none⟩ = some (.bool false):=(kC_ BK287.out 1).trans rfl;have hcz10_2 : w5.cell? ⟨gb287,2,none⟩ = some (.slice none 0 0):=(kC_ BK287.out 2).trans rfl;have hfz10_0:=kF_ BK287.out 0;have hfz10_1:=kF_ BK287.out 1;have hfz10_2:=kF_ BK287.out 2) | ((with_reducible refine gate_callee (f:=74) rfl ?_);refine goesL_ (some 12) rfl rfl Tryd.func74 (by kernel_rfl) rfl #[.slice A0_2 l0_2.length c0_2] rfl (by (try simp only [mA_,mC_,mN_]);first | done | rfl | (simp only [lD_,lT_];rfl)) ?_;(with_reducible refine (laws_toByS.calls k _ _ l0_2 t288 _ ?side1 ?side2 A2.out).mono ?_);(case side1=>exact Kd.C_below HR0_2.out (by exact bZ_ HB));(case side2=>exact HC0_2.out);rintro e w11 ⟨v289,rfl,ho0,hb⟩;refine ⟨_,rfl,?_⟩;have n0_:=aM_ (Kd.R_lower ho0 (bS_ (by exact bZ_ HB)));have n1_:=aM_ (blk_below (g:=gb285) (o:=.cells #[.string a0_0,.bool a0_1,.slice A0_2 l0_2.length c0_2] 134 (0,0)) (by exact kW_ BK285) hb);have n2_:=aM_ (blk_below (g:=gb286) (o:=.cells #[.string (⟨#[]⟩ : ByteArray),.bool false,.slice none 0 0] 69 (0,0)) (by exact kW_ BK286) hb);have n3_:=aM_ (blk_below (g:=gb287) (o:=.cells #[.string a0_0,.bool a0_1,.slice none 0 0] 69 (0,0)) (by (with_reducible repeat (first | refine kN_ ?_ _ | refine kD_ ?_ | refine kA_ ?_ _));refine kP_ (cs:=#[.string a0_0,.bool false,.slice none 0 0]) ?_ 1 _ rfl;(with_reducible repeat (first | refine kN_ ?_ _ | refine kD_ ?_ | refine kA_ ?_ _));refine kP_ (cs:=#[.string (⟨#[]⟩ : ByteArray),.bool false,.slice none 0 0]) ?_ 0 _ rfl;exact kZ_ BK287) hb);have n4_:=aM_ (bT_ (by exact bZ_ HB) hb);clear BK285;clear BK286;clear BK287;clear HB;have HO290:=n0_;have BK285:=n1_;have BK286:=n2_;have BK287:=n3_;have HB:=n4_;clear n0_ n1_ n2_ n3_ n4_;(try clear hb);(try clear hb2);(try clear hk);(try clear hi);(try clear ho0);obtain ⟨Ao12,co12,eo12⟩:=Kd.R_slice HO290.out;subst eo12;have hcz13_0 : w11.cell? ⟨gb287,0,none⟩ = some (.string a0_0):=(kC_ BK287.out 0).trans rfl;have hcz13_1 : w11.cell? ⟨gb287,1,none⟩ = some (.bool a0_1):=(kC_ BK287.out 1).trans rfl;have hcz13_2 : w11.cell? ⟨gb287,2,none⟩ = some (.slice none 0 0):=(kC_ BK287.out 2).trans rfl;have hfz13_0:=kF_ BK287.out 0;have hfz13_1:=kF_ BK287.out 1;have hfz13_2:=kF_ BK287.out 2;have hcz14_0 : w11.cell? ⟨gb286,0,none⟩ = some (.string (⟨#[]⟩ : ByteArray)):=(kC_ BK286.out 0).trans rfl;have hcz14_1 : w11.cell? ⟨gb286,1,none⟩ = some (.bool false):=(kC_ BK286.out 1).trans rfl;have hcz14_2 : w11.cell? ⟨gb286,2,none⟩ = some (.slice none 0 0):=(kC_ BK286.out 2).trans rfl;have hfz14_0:=kF_ BK286.out 0;have hfz14_1:=kF_ BK286.out 1;have hfz14_2:=kF_ BK286.out 2))
 refine bodyPost_ret (results_cell_row rfl _ _ gb286 69 #[.string a0_0,.bool a0_1,.slice Ao12 t288.length co12] (0,0) _ rfl (by (with_reducible repeat (first | refine kN_ ?_ _ | refine kD_ ?_ | refine kA_ ?_ _));refine kP_ (cs:=#[.string a0_0,.bool a0_1,.slice none 0 0]) ?_ 2 _ rfl;(with_reducible repeat (first | refine kN_ ?_ _ | refine kD_ ?_ | refine kA_ ?_ _));refine kP_ (cs:=#[.string a0_0,.bool false,.slice none 0 0]) ?_ 1 _ rfl;(with_reducible repeat (first | refine kN_ ?_ _ | refine kD_ ?_ | refine kA_ ?_ _));refine kP_ (cs:=#[.string (⟨#[]⟩ : ByteArray),.bool false,.slice none 0 0]) ?_ 0 _ rfl;exact kW_ BK286) Tryd.underlying69 rfl (by kernel_rfl)) rfl ?_
 exact ⟨_,by first | rfl | (simp [errW_none,errW_some] <;> rfl) | (simp [*, errW_none,errW_some] <;> rfl),by (with_reducible repeat (first | apply rA_ | apply rN_ | apply rD_));exact Kd.R_mono (Kd.R_far (p:=⟨gb286,2,none⟩) (Kd.R_far (p:=⟨gb286,1,none⟩) (Kd.R_far (p:=⟨gb286,0,none⟩) (Kd.R_far (p:=⟨gb287,2,none⟩) (Kd.R_types (Kd.R_types HO290.out BK287.out (by decide)) BK286.out (by decide)) (fun _ hk=>hk.1.2) (.slice Ao12 t288.length co12)) (fun _ hk=>hk.2) (.string a0_0)) (fun _ hk=>hk.2) (.bool a0_1)) (fun _ hk=>hk.2) (.slice Ao12 t288.length co12)) (fun _ hk=>trivial),by exact bZ_ HB⟩
end Go.Proofs.YtipehkeabnfngaaDoor.PFnExactDefText
