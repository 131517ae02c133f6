import Derived.Test.YtipehkeabnfngaaDoorZDSPFnExactDefsTextx0
namespace Go.Proofs.YtipehkeabnfngaaDoor.PFnExactDefsText
open Go.RowKit Go.Proofs.YtipehkeabnfngaaDoorW.PrintWords Go.Proofs.YtipehkeabnfngaaDoorW.PrintLast Go.Proofs.YtipehkeabnfngaaDoorW.PrintMore Go.Proofs.YtipehkeabnfngaaDoor.Xtra
attribute [local go_sem] max2_int min2_int max_two min_two max_three min_three max_four min_four str_leq str_gtr str_geq setCell_drewN cell_set2 cell_set3   -- for this text's walks alone
set_option linter.unusedVariables false
set_option linter.unusedSimpArgs false
def laws_szCol.f (a0_0 : ByteArray) (a0_1 : Int) (a0_2 : Bool) (a1 : Int) : Option (Int):=if (wrap64 (a1 - (a0_0.size : Int))) < 0 then (some (-1)) else (some (wrap64 (a1 - (a0_0.size : Int))))
set_option maxHeartbeats 8000000 in
set_option maxRecDepth 100000 in
theorem laws_szCol.calls (a0_0 : ByteArray) (a0_1 : Int) (a0_2 : Bool) (a1 : Int) (r : Int) (w : World) (h : laws_szCol.f a0_0 a0_1 a0_2 a1 = some r) :
  Calls Tryd.prog 112 #[.agg #[.string a0_0,.int .i64 a0_1,.bool a0_2],.int .i64 a1] w fun e w'=>e = .returned (.int .i64 r) ∧ Below w.heap.size w w':=by
 have hu131:=Tryd.underlying131
 have HB:=aM_ (Below.refl w.heap.size w)
 have H : (if (wrap64 (a1 - (a0_0.size : Int))) < 0 then (some (-1)) else (some (wrap64 (a1 - (a0_0.size : Int))))) = some r:=h
 clear h
 by_cases c3 : (wrap64 (a1 - (a0_0.size : Int))) < 0
 ·rw [if_pos c3] at H
  have c3b0 : decide ((wrap64 (a1 - (a0_0.size : Int))) < 0) = true:=decide_eq_true c3
  clear c3
  obtain rfl:=Option.some.inj H
  go_enter Tryd.func112,Tryd.ntmps112
  go_wp2_with (first | ((with_reducible refine gate_dst (N:=2) rfl ?_);refine box_event ?hg (N:=2) ?hd (cs:=#[.string a0_0,.int .i64 a0_1,.bool a0_2]) (t:=131) ?hr ?_;(case hd=>rfl);(case hg=>rfl);(case hr=>first | (go_simp;done) | (go_simp;rfl));intro gb101 hg w4 hbox hb;have n0_:=aM_ (bT_ (by exact bZ_ HB) hb);have n1_:=aM_ (hbox);have n2_:=aM_ ((by rw [hg];exact (bS_ (by exact bZ_ HB)) : w.heap.size ≤ gb101));have n3_:=aM_ ((by rw [hg];exact (bS_ (by exact bZ_ HB)) : w.heap.size ≤ gb101));clear HB;have HB:=n0_;have BK101:=n1_;have GW101:=n2_;have GE101:=n3_;clear n0_ n1_ n2_ n3_ hb hbox hg;have hcz5_0 : w4.cell? ⟨gb101,0,none⟩ = some (.string a0_0):=(kC_ BK101.out 0).trans rfl;have hcz5_1 : w4.cell? ⟨gb101,1,none⟩ = some (.int .i64 a0_1):=(kC_ BK101.out 1).trans rfl;have hcz5_2 : w4.cell? ⟨gb101,2,none⟩ = some (.bool a0_2):=(kC_ BK101.out 2).trans rfl;have hfz5_0:=kF_ BK101.out 0;have hfz5_1:=kF_ BK101.out 1;have hfz5_2:=kF_ BK101.out 2))
  go_ret
  exact ⟨by first | rfl | (simp [errW_none,errW_some] <;> rfl) | (simp [*, errW_none,errW_some] <;> rfl),by exact bZ_ HB⟩
 ·rw [if_neg c3] at H
  have c3b0 : decide ((wrap64 (a1 - (a0_0.size : Int))) < 0) = false:=decide_eq_false c3
  clear c3
  obtain rfl:=Option.some.inj H
  go_enter Tryd.func112,Tryd.ntmps112
  go_wp2_with (first | ((with_reducible refine gate_dst (N:=2) rfl ?_);refine box_event ?hg (N:=2) ?hd (cs:=#[.string a0_0,.int .i64 a0_1,.bool a0_2]) (t:=131) ?hr ?_;(case hd=>rfl);(case hg=>rfl);(case hr=>first | (go_simp;done) | (go_simp;rfl));intro gb101 hg w6 hbox hb;have n0_:=aM_ (bT_ (by exact bZ_ HB) hb);have n1_:=aM_ (hbox);have n2_:=aM_ ((by rw [hg];exact (bS_ (by exact bZ_ HB)) : w.heap.size ≤ gb101));have n3_:=aM_ ((by rw [hg];exact (bS_ (by exact bZ_ HB)) : w.heap.size ≤ gb101));clear HB;have HB:=n0_;have BK101:=n1_;have GW101:=n2_;have GE101:=n3_;clear n0_ n1_ n2_ n3_ hb hbox hg;have hcz7_0 : w6.cell? ⟨gb101,0,none⟩ = some (.string a0_0):=(kC_ BK101.out 0).trans rfl;have hcz7_1 : w6.cell? ⟨gb101,1,none⟩ = some (.int .i64 a0_1):=(kC_ BK101.out 1).trans rfl;have hcz7_2 : w6.cell? ⟨gb101,2,none⟩ = some (.bool a0_2):=(kC_ BK101.out 2).trans rfl;have hfz7_0:=kF_ BK101.out 0;have hfz7_1:=kF_ BK101.out 1;have hfz7_2:=kF_ BK101.out 2))
  go_ret
  exact ⟨by first | rfl | (simp [errW_none,errW_some] <;> rfl) | (simp [*, errW_none,errW_some] <;> rfl),by exact bZ_ HB⟩
def laws_szColS.l0 : Nat → List (S131) → Int → Int → Option (Int)
 | 0,_,_,_=>none
 | k + 1,x0,x1,x5=>if x5 < (x0.length : Int) then (if 0 ≤ x5 then ((laws_szCol.f ((rd_T131 x0 x5).f0) ((rd_T131 x0 x5).f1) ((rd_T131 x0 x5).f2) x1).bind fun t103=>(if t103 < 0 then (some (-1)) else (laws_szColS.l0 k x0 t103 (wrap64 (x5 + 1))))) else (none)) else (some x1)
def laws_szColS.f (k : Nat) (l0 : List (S131)) (a1 : Int) : Option (Int):=if (wrap64 (a1 - (l0.length : Int))) < 0 then (some (-1)) else (laws_szColS.l0 k l0 (wrap64 (a1 - (l0.length : Int))) 0)
theorem laws_szColS.mono_l : ∀ k,(∀ y0 y1 y2,LeO (laws_szColS.l0 k y0 y1 y2) (laws_szColS.l0 (k + 1) y0 y1 y2))
 | 0=>fun _ _ _ r h=>by simp [laws_szColS.l0] at h
 | k + 1=>by
  have ih0:=laws_szColS.mono_l k
  ·intro y0 y1 y2
   unfold laws_szColS.l0
   repeat' first
   | (with_reducible exact ih0 _ _ _)
   | (with_reducible exact LeO.refl _)
   | (with_reducible exact LeO.none _)
   | (with_reducible refine LeO.ite ?_ ?_)
   | (with_reducible refine LeO.bind ?_ (fun _=>?_))
   | exact ih0 _ _ _
   | exact LeO.none _
   | refine LeO.ite ?_ ?_
   | refine LeO.bind ?_ (fun _=>?_)
theorem laws_szColS.mono : ∀ a0 a1 k,LeO (laws_szColS.f k a0 a1) (laws_szColS.f (k + 1) a0 a1):=by
 intro a0 a1 k
 have ih0:=laws_szColS.mono_l k
 unfold laws_szColS.f
 repeat' first
   | (with_reducible exact ih0 _ _ _)
   | (with_reducible exact LeO.refl _)
   | (with_reducible exact LeO.none _)
   | (with_reducible refine LeO.ite ?_ ?_)
   | (with_reducible refine LeO.bind ?_ (fun _=>?_))
   | exact ih0 _ _ _
   | exact LeO.none _
   | refine LeO.ite ?_ ?_
   | refine LeO.bind ?_ (fun _=>?_)
set_option maxHeartbeats 8000000 in
set_option maxRecDepth 100000 in
theorem laws_szColS.calls (k : Nat) (A0 : Option Addr) (c0 : Nat) (l0 : List (S131)) (a1 : Int) (r : Int) (w : World) (hr0 : Kd.C k131 w A0 l0.length l0) (hc0 : l0.length ≤ c0) (h : laws_szColS.f k l0 a1 = some r) :
  Calls Tryd.prog 70 #[.slice A0 l0.length c0,.int .i64 a1] w fun e w'=>e = .returned (.int .i64 r) ∧ Below w.heap.size w w':=by
 have hu131:=Tryd.underlying131
 have HR0:=aM_ hr0
 have HC0:=aM_ hc0
 clear hr0 hc0
 have HB:=aM_ (Below.refl w.heap.size w)
 have H : (if (wrap64 (a1 - (l0.length : Int))) < 0 then (some (-1)) else (laws_szColS.l0 k l0 (wrap64 (a1 - (l0.length : Int))) 0)) = some r:=h
 clear h
 by_cases c3 : (wrap64 (a1 - (l0.length : Int))) < 0
 ·rw [if_pos c3] at H
  have c3b0 : decide ((wrap64 (a1 - (l0.length : Int))) < 0) = true:=decide_eq_true c3
  clear c3
  obtain rfl:=Option.some.inj H
  go_enter Tryd.func70,Tryd.ntmps70
  go_wp2
  go_ret
  exact ⟨by first | rfl | (simp [errW_none,errW_some] <;> rfl) | (simp [*, errW_none,errW_some] <;> rfl),by exact bZ_ HB⟩
 ·rw [if_neg c3] at H
  have c3b0 : decide ((wrap64 (a1 - (l0.length : Int))) < 0) = false:=decide_eq_false c3
  clear c3
  have H':=aM_ H
  clear H
  go_enter Tryd.func70,Tryd.ntmps70
  go_wp2
  (try simp only [Act.put,sI_,sS_,sZ_])
  go_loopg [1,5] k (fun kq v1 v5 w'=>∃ (x1_1 : Int) (x5_1 : Int),v1 = .int .i64 x1_1 ∧ v5 = .int .i64 x5_1 ∧ Aside0 (laws_szColS.l0 kq l0 x1_1 x5_1 = some r) ∧ Aside0 (kq ≤ k) ∧ Aside0 (Below w.heap.size w w'))
  case atStart=>exact ⟨(wrap64 (a1 - (l0.length : Int))),(0),(by first | rfl | (simp;done) | (simp [*];done)),(by first | rfl | (simp;done) | (simp [*];done)),H', ⟨Nat.le_refl _⟩,⟨by exact bZ_ HB⟩⟩
  case round =>
   clear H'
   clear c3b0
   obtain ⟨x1_1,x5_1,rfl,rfl,HA,HK1,HB⟩:=hrel
   cases gk with
   | zero=>exact absurd HA.out (by simp [laws_szColS.l0])
   | succ k1 =>
    have H:=HA.out
    clear HA
    simp only [laws_szColS.l0] at H
    by_cases c4 : x5_1 < (l0.length : Int)
    ·rw [if_pos c4] at H
     have c4b0 : decide (x5_1 < (l0.length : Int)) = true:=decide_eq_true c4
     clear c4
     by_cases c5 : 0 ≤ x5_1
     ·rw [if_pos c5] at H
      have c5b0 : decide (0 ≤ x5_1) = true:=decide_eq_true c5
      clear c5
      replace H:=oB_ H
      obtain ⟨t103,A60,H⟩:=H
      replace H : (if t103 < 0 then (some (-1)) else (laws_szColS.l0 k1 l0 t103 (wrap64 (x5_1 + 1)))) = some r:=H
      have A6:=aM_ A60
      clear A60
      by_cases c7 : t103 < 0
      ·rw [if_pos c7] at H
       have c7b0 : decide (t103 < 0) = true:=decide_eq_true c7
       clear c7
       obtain rfl:=Option.some.inj H
       have p102 : 0 ≤ (x5_1 : Int):=oT_ (by first | (with_reducible assumption) | assumption)
       have q102 : x5_1 < (l0.length : Int):=oT_ (by first | (with_reducible assumption) | assumption)
       obtain ⟨ad102,e102,hx102_0,hx102_1,hx102_2⟩:=at_T131 HR0.out x5_1 p102 q102
       cases e102
       replace hx102_0:=(HB.out.cell (wL_ w _ hx102_0)).trans hx102_0
       replace hx102_1:=(HB.out.cell (wL_ w _ hx102_1)).trans hx102_1
       replace hx102_2:=(HB.out.cell (wL_ w _ hx102_2)).trans hx102_2
       replace p102:=eq_true p102
       replace q102:=eq_true q102
       go_wp2_with (first | ((with_reducible refine gate_callee (f:=112) rfl ?_);refine goesL_ (some 23) rfl rfl Tryd.func112 (by kernel_rfl) rfl #[.agg #[.string ((rd_T131 l0 x5_1).f0),.int .i64 ((rd_T131 l0 x5_1).f1),.bool ((rd_T131 l0 x5_1).f2)],.int .i64 x1_1] rfl (by (try simp only [mA_,mC_,mN_]);first | done | rfl | (simp only [lD_,lT_];rfl)) ?_;(with_reducible refine (laws_szCol.calls ((rd_T131 l0 x5_1).f0) ((rd_T131 l0 x5_1).f1) ((rd_T131 l0 x5_1).f2) x1_1 t103 _ A6.out).mono ?_);rintro e w8 ⟨rfl,hb⟩;refine ⟨_,rfl,?_⟩;have n0_:=aM_ (bT_ (by exact bZ_ HB) hb);clear HB;have HB:=n0_;clear n0_ hb))
       go_ret
       exact ⟨by first | rfl | (simp [errW_none,errW_some] <;> rfl) | (simp [*, errW_none,errW_some] <;> rfl),by exact bZ_ HB⟩
      ·rw [if_neg c7] at H
       have c7b0 : decide (t103 < 0) = false:=decide_eq_false c7
       clear c7
       have H':=aM_ H
       clear H
       have p102 : 0 ≤ (x5_1 : Int):=oT_ (by first | (with_reducible assumption) | assumption)
       have q102 : x5_1 < (l0.length : Int):=oT_ (by first | (with_reducible assumption) | assumption)
       obtain ⟨ad102,e102,hx102_0,hx102_1,hx102_2⟩:=at_T131 HR0.out x5_1 p102 q102
       cases e102
       replace hx102_0:=(HB.out.cell (wL_ w _ hx102_0)).trans hx102_0
       replace hx102_1:=(HB.out.cell (wL_ w _ hx102_1)).trans hx102_1
       replace hx102_2:=(HB.out.cell (wL_ w _ hx102_2)).trans hx102_2
       replace p102:=eq_true p102
       replace q102:=eq_true q102
       go_wp2_with (first | ((with_reducible refine gate_callee (f:=112) rfl ?_);refine goesL_ (some 23) rfl rfl Tryd.func112 (by kernel_rfl) rfl #[.agg #[.string ((rd_T131 l0 x5_1).f0),.int .i64 ((rd_T131 l0 x5_1).f1),.bool ((rd_T131 l0 x5_1).f2)],.int .i64 x1_1] rfl (by (try simp only [mA_,mC_,mN_]);first | done | rfl | (simp only [lD_,lT_];rfl)) ?_;(with_reducible refine (laws_szCol.calls ((rd_T131 l0 x5_1).f0) ((rd_T131 l0 x5_1).f1) ((rd_T131 l0 x5_1).f2) x1_1 t103 _ A6.out).mono ?_);rintro e w9 ⟨rfl,hb⟩;refine ⟨_,rfl,?_⟩;have n0_:=aM_ (bT_ (by exact bZ_ HB) hb);clear HB;have HB:=n0_;clear n0_ hb))
       go_roundg k1
       case measure=>have:=HK1.out;omega
       case rel=>exact ⟨(t103),(wrap64 (x5_1 + 1)),(by first | rfl | (simp;done) | (simp [*];done)),(by first | rfl | (simp;done) | (simp [*];done)),H', ⟨by have:=HK1.out;omega⟩,⟨by exact bZ_ HB⟩⟩
     ·rw [if_neg c5] at H
      exact absurd H (by simp)
    ·rw [if_neg c4] at H
     have c4b0 : decide (x5_1 < (l0.length : Int)) = false:=decide_eq_false c4
     clear c4
     obtain rfl:=Option.some.inj H
     go_wp2
     go_ret
     exact ⟨by first | rfl | (simp [errW_none,errW_some] <;> rfl) | (simp [*, errW_none,errW_some] <;> rfl),by exact bZ_ HB⟩
def laws_szByS.f (l0 : List (S137)) (a1 : Int) : Option (Int):=if (wrap64 (a1 - (l0.length : Int))) < 0 then (some (-1)) else (some (wrap64 (a1 - (l0.length : Int))))
set_option maxHeartbeats 8000000 in
set_option maxRecDepth 100000 in
theorem laws_szByS.calls (A0 : Option Addr) (c0 : Nat) (l0 : List (S137)) (a1 : Int) (r : Int) (w : World) (hr0 : Kd.C k137 w A0 l0.length l0) (hc0 : l0.length ≤ c0) (h : laws_szByS.f l0 a1 = some r) :
  Calls Tryd.prog 71 #[.slice A0 l0.length c0,.int .i64 a1] w fun e w'=>e = .returned (.int .i64 r) ∧ Drawn0 w w':=by
 have HR0:=aM_ hr0
 have HC0:=aM_ hc0
 clear hr0 hc0
 have H : (if (wrap64 (a1 - (l0.length : Int))) < 0 then (some (-1)) else (some (wrap64 (a1 - (l0.length : Int))))) = some r:=h
 clear h
 by_cases c3 : (wrap64 (a1 - (l0.length : Int))) < 0
 ·rw [if_pos c3] at H
  have c3b0 : decide ((wrap64 (a1 - (l0.length : Int))) < 0) = true:=decide_eq_true c3
  clear c3
  obtain rfl:=Option.some.inj H
  go_enter Tryd.func71,Tryd.ntmps71
  go_wp2
  go_ret
  exact ⟨by first | rfl | (simp;done) | (simp [*];done),by repeat (first | exact Drawn0.refl _ | apply Drawn0.step)⟩
 ·rw [if_neg c3] at H
  have c3b0 : decide ((wrap64 (a1 - (l0.length : Int))) < 0) = false:=decide_eq_false c3
  clear c3
  obtain rfl:=Option.some.inj H
  go_enter Tryd.func71,Tryd.ntmps71
  go_wp2
  go_ret
  exact ⟨by first | rfl | (simp;done) | (simp [*];done),by repeat (first | exact Drawn0.refl _ | apply Drawn0.step)⟩
def laws_szIndex.f (a0_0 : ByteArray) (a0_1 : Bool) (l0_2 : List (S137)) (a1 : Int) : Option (Int):=if (wrap64 (a1 - (a0_0.size : Int))) < 0 then (some (-1)) else ((laws_szByS.f l0_2 (wrap64 (a1 - (a0_0.size : Int)))).bind fun t105=>(if t105 < 0 then (some (-1)) else (some t105)))
set_option maxHeartbeats 8000000 in
set_option maxRecDepth 100000 in
theorem laws_szIndex.calls (a0_0 : ByteArray) (a0_1 : Bool) (A0_2 : Option Addr) (c0_2 : Nat) (l0_2 : List (S137)) (a1 : Int) (r : Int) (w : World) (hr0_2 : Kd.C k137 w A0_2 l0_2.length l0_2) (hc0_2 : l0_2.length ≤ c0_2) (h : laws_szIndex.f a0_0 a0_1 l0_2 a1 = some r) :
  Calls Tryd.prog 113 #[.agg #[.string a0_0,.bool a0_1,.slice A0_2 l0_2.length c0_2],.int .i64 a1] w fun e w'=>e = .returned (.int .i64 r) ∧ Below w.heap.size w w':=by
 have hu134:=Tryd.underlying134
 have HR0_2:=aM_ hr0_2
 have HC0_2:=aM_ hc0_2
 clear hr0_2 hc0_2
 have HB:=aM_ (Below.refl w.heap.size w)
 have H : (if (wrap64 (a1 - (a0_0.size : Int))) < 0 then (some (-1)) else ((laws_szByS.f l0_2 (wrap64 (a1 - (a0_0.size : Int)))).bind fun t105=>(if t105 < 0 then (some (-1)) else (some t105)))) = some r:=h
 clear h
 by_cases c3 : (wrap64 (a1 - (a0_0.size : Int))) < 0
 ·rw [if_pos c3] at H
  have c3b0 : decide ((wrap64 (a1 - (a0_0.size : Int))) < 0) = true:=decide_eq_true c3
  clear c3
  obtain rfl:=Option.some.inj H
  go_enter Tryd.func113,Tryd.ntmps113
  go_wp2_with (first | ((with_reducible refine gate_dst (N:=2) rfl ?_);refine box_event ?hg (N:=2) ?hd (cs:=#[.string a0_0,.bool a0_1,.slice A0_2 l0_2.length c0_2]) (t:=134) ?hr ?_;(case hd=>rfl);(case hg=>rfl);(case hr=>first | (go_simp;done) | (go_simp;rfl));intro gb104 hg w4 hbox hb;have n0_:=aM_ (bT_ (by exact bZ_ HB) hb);have n1_:=aM_ (hbox);have n2_:=aM_ ((by rw [hg];exact (bS_ (by exact bZ_ HB)) : w.heap.size ≤ gb104));have n3_:=aM_ ((by rw [hg];exact (bS_ (by exact bZ_ HB)) : w.heap.size ≤ gb104));clear HB;have HB:=n0_;have BK104:=n1_;have GW104:=n2_;have GE104:=n3_;clear n0_ n1_ n2_ n3_ hb hbox hg;have hcz5_0 : w4.cell? ⟨gb104,0,none⟩ = some (.string a0_0):=(kC_ BK104.out 0).trans rfl;have hcz5_1 : w4.cell? ⟨gb104,1,none⟩ = some (.bool a0_1):=(kC_ BK104.out 1).trans rfl;have hcz5_2 : w4.cell? ⟨gb104,2,none⟩ = some (.slice A0_2 l0_2.length c0_2):=(kC_ BK104.out 2).trans rfl;have hfz5_0:=kF_ BK104.out 0;have hfz5_1:=kF_ BK104.out 1;have hfz5_2:=kF_ BK104.out 2))
  go_ret
  exact ⟨by first | rfl | (simp [errW_none,errW_some] <;> rfl) | (simp [*, errW_none,errW_some] <;> rfl),by exact bZ_ HB⟩
 ·rw [if_neg c3] at H
  have c3b0 : decide ((wrap64 (a1 - (a0_0.size : Int))) < 0) = false:=decide_eq_false c3
  clear c3
  replace H:=oB_ H
  obtain ⟨t105,A60,H⟩:=H
  replace H : (if t105 < 0 then (some (-1)) else (some t105)) = some r:=H
  have A6:=aM_ A60
  clear A60
  by_cases c7 : t105 < 0
  ·rw [if_pos c7] at H
   have c7b0 : decide (t105 < 0) = true:=decide_eq_true c7
   clear c7
   obtain rfl:=Option.some.inj H
   go_enter Tryd.func113,Tryd.ntmps113
   go_wp2_with (first | ((with_reducible refine gate_dst (N:=2) rfl ?_);refine box_event ?hg (N:=2) ?hd (cs:=#[.string a0_0,.bool a0_1,.slice A0_2 l0_2.length c0_2]) (t:=134) ?hr ?_;(case hd=>rfl);(case hg=>rfl);(case hr=>first | (go_simp;done) | (go_simp;rfl));intro gb104 hg w8 hbox hb;have n0_:=aM_ (bT_ (by exact bZ_ HB) hb);have n1_:=aM_ (hbox);have n2_:=aM_ ((by rw [hg];exact (bS_ (by exact bZ_ HB)) : w.heap.size ≤ gb104));have n3_:=aM_ ((by rw [hg];exact (bS_ (by exact bZ_ HB)) : w.heap.size ≤ gb104));clear HB;have HB:=n0_;have BK104:=n1_;have GW104:=n2_;have GE104:=n3_;clear n0_ n1_ n2_ n3_ hb hbox hg;have hcz9_0 : w8.cell? ⟨gb104,0,none⟩ = some (.string a0_0):=(kC_ BK104.out 0).trans rfl;have hcz9_1 : w8.cell? ⟨gb104,1,none⟩ = some (.bool a0_1):=(kC_ BK104.out 1).trans rfl;have hcz9_2 : w8.cell? ⟨gb104,2,none⟩ = some (.slice A0_2 l0_2.length c0_2):=(kC_ BK104.out 2).trans rfl;have hfz9_0:=kF_ BK104.out 0;have hfz9_1:=kF_ BK104.out 1;have hfz9_2:=kF_ BK104.out 2) | ((with_reducible refine gate_callee (f:=71) rfl ?_);refine goesL_ (some 15) rfl rfl Tryd.func71 (by kernel_rfl) rfl #[.slice A0_2 l0_2.length c0_2,.int .i64 (wrap64 (a1 - (a0_0.size : Int)))] rfl (by (try simp only [mA_,mC_,mN_]);first | done | rfl | (simp only [lD_,lT_];rfl)) ?_;(with_reducible refine (laws_szByS.calls _ _ l0_2 (wrap64 (a1 - (a0_0.size : Int))) t105 _ ?side1 ?side2 A6.out).mono ?_);(case side1=>exact cZ_ HR0_2 HB);(case side2=>exact HC0_2.out);rintro e w' ⟨rfl,⟨nd,rfl⟩⟩;refine ⟨_,rfl,?_⟩))
   go_ret
   exact ⟨by first | rfl | (simp [errW_none,errW_some] <;> rfl) | (simp [*, errW_none,errW_some] <;> rfl),by exact bZ_ HB⟩
  ·rw [if_neg c7] at H
   have c7b0 : decide (t105 < 0) = false:=decide_eq_false c7
   clear c7
   obtain rfl:=Option.some.inj H
   go_enter Tryd.func113,Tryd.ntmps113
   go_wp2_with (first | ((with_reducible refine gate_dst (N:=2) rfl ?_);refine box_event ?hg (N:=2) ?hd (cs:=#[.string a0_0,.bool a0_1,.slice A0_2 l0_2.length c0_2]) (t:=134) ?hr ?_;(case hd=>rfl);(case hg=>rfl);(case hr=>first | (go_simp;done) | (go_simp;rfl));intro gb104 hg w10 hbox hb;have n0_:=aM_ (bT_ (by exact bZ_ HB) hb);have n1_:=aM_ (hbox);have n2_:=aM_ ((by rw [hg];exact (bS_ (by exact bZ_ HB)) : w.heap.size ≤ gb104));have n3_:=aM_ ((by rw [hg];exact (bS_ (by exact bZ_ HB)) : w.heap.size ≤ gb104));clear HB;have HB:=n0_;have BK104:=n1_;have GW104:=n2_;have GE104:=n3_;clear n0_ n1_ n2_ n3_ hb hbox hg;have hcz11_0 : w10.cell? ⟨gb104,0,none⟩ = some (.string a0_0):=(kC_ BK104.out 0).trans rfl;have hcz11_1 : w10.cell? ⟨gb104,1,none⟩ = some (.bool a0_1):=(kC_ BK104.out 1).trans rfl;have hcz11_2 : w10.cell? ⟨gb104,2,none⟩ = some (.slice A0_2 l0_2.length c0_2):=(kC_ BK104.out 2).trans rfl;have hfz11_0:=kF_ BK104.out 0;have hfz11_1:=kF_ BK104.out 1;have hfz11_2:=kF_ BK104.out 2) | ((with_reducible refine gate_callee (f:=71) rfl ?_);refine goesL_ (some 15) rfl rfl Tryd.func71 (by kernel_rfl) rfl #[.slice A0_2 l0_2.length c0_2,.int .i64 (wrap64 (a1 - (a0_0.size : Int)))] rfl (by (try simp only [mA_,mC_,mN_]);first | done | rfl | (simp only [lD_,lT_];rfl)) ?_;(with_reducible refine (laws_szByS.calls _ _ l0_2 (wrap64 (a1 - (a0_0.size : Int))) t105 _ ?side1 ?side2 A6.out).mono ?_);(case side1=>exact cZ_ HR0_2 HB);(case side2=>exact HC0_2.out);rintro e w' ⟨rfl,⟨nd,rfl⟩⟩;refine ⟨_,rfl,?_⟩))
   go_ret
   exact ⟨by first | rfl | (simp [errW_none,errW_some] <;> rfl) | (simp [*, errW_none,errW_some] <;> rfl),by exact bZ_ HB⟩
def laws_szIndexS.l0 : Nat → List (S134) → Int → Int → Option (Int)
 | 0,_,_,_=>none
 | k + 1,x0,x1,x5=>if x5 < (x0.length : Int) then (if 0 ≤ x5 then ((laws_szIndex.f ((rd_T134 x0 x5).f0) ((rd_T134 x0 x5).f1) ((rd_T134 x0 x5).f2) x1).bind fun t107=>(if t107 < 0 then (some (-1)) else (laws_szIndexS.l0 k x0 t107 (wrap64 (x5 + 1))))) else (none)) else (some x1)
def laws_szIndexS.f (k : Nat) (l0 : List (S134)) (a1 : Int) : Option (Int):=if (wrap64 (a1 - (l0.length : Int))) < 0 then (some (-1)) else (laws_szIndexS.l0 k l0 (wrap64 (a1 - (l0.length : Int))) 0)
theorem laws_szIndexS.mono_l : ∀ k,(∀ y0 y1 y2,LeO (laws_szIndexS.l0 k y0 y1 y2) (laws_szIndexS.l0 (k + 1) y0 y1 y2))
 | 0=>fun _ _ _ r h=>by simp [laws_szIndexS.l0] at h
 | k + 1=>by
  have ih0:=laws_szIndexS.mono_l k
  ·intro y0 y1 y2
   unfold laws_szIndexS.l0
   repeat' first
   | (with_reducible exact ih0 _ _ _)
   | (with_reducible exact LeO.refl _)
   | (with_reducible exact LeO.none _)
   | (with_reducible refine LeO.ite ?_ ?_)
   | (with_reducible refine LeO.bind ?_ (fun _=>?_))
   | exact ih0 _ _ _
   | exact LeO.none _
   | refine LeO.ite ?_ ?_
   | refine LeO.bind ?_ (fun _=>?_)
theorem laws_szIndexS.mono : ∀ a0 a1 k,LeO (laws_szIndexS.f k a0 a1) (laws_szIndexS.f (k + 1) a0 a1):=by
 intro a0 a1 k
 have ih0:=laws_szIndexS.mono_l k
 unfold laws_szIndexS.f
 repeat' first
   | (with_reducible exact ih0 _ _ _)
   | (with_reducible exact LeO.refl _)
   | (with_reducible exact LeO.none _)
   | (with_reducible refine LeO.ite ?_ ?_)
   | (with_reducible refine LeO.bind ?_ (fun _=>?_))
   | exact ih0 _ _ _
   | exact LeO.none _
   | refine LeO.ite ?_ ?_
   | refine LeO.bind ?_ (fun _=>?_)
set_option maxHeartbeats 8000000 in
set_option maxRecDepth 100000 in
theorem laws_szIndexS.calls (k : Nat) (A0 : Option Addr) (c0 : Nat) (l0 : List (S134)) (a1 : Int) (r : Int) (w : World) (hr0 : Kd.C k134 w A0 l0.length l0) (hc0 : l0.length ≤ c0) (h : laws_szIndexS.f k l0 a1 = some r) :
  Calls Tryd.prog 72 #[.slice A0 l0.length c0,.int .i64 a1] w fun e w'=>e = .returned (.int .i64 r) ∧ Below w.heap.size w w':=by
 have hu134:=Tryd.underlying134
 have HR0:=aM_ hr0
 have HC0:=aM_ hc0
 clear hr0 hc0
 have HB:=aM_ (Below.refl w.heap.size w)
 have H : (if (wrap64 (a1 - (l0.length : Int))) < 0 then (some (-1)) else (laws_szIndexS.l0 k l0 (wrap64 (a1 - (l0.length : Int))) 0)) = some r:=h
 clear h
 by_cases c3 : (wrap64 (a1 - (l0.length : Int))) < 0
 ·rw [if_pos c3] at H
  have c3b0 : decide ((wrap64 (a1 - (l0.length : Int))) < 0) = true:=decide_eq_true c3
  clear c3
  obtain rfl:=Option.some.inj H
  go_enter Tryd.func72,Tryd.ntmps72
  go_wp2
  go_ret
  exact ⟨by first | rfl | (simp [errW_none,errW_some] <;> rfl) | (simp [*, errW_none,errW_some] <;> rfl),by exact bZ_ HB⟩
 ·rw [if_neg c3] at H
  have c3b0 : decide ((wrap64 (a1 - (l0.length : Int))) < 0) = false:=decide_eq_false c3
  clear c3
  have H':=aM_ H
  clear H
  go_enter Tryd.func72,Tryd.ntmps72
  go_wp2
  (try simp only [Act.put,sI_,sS_,sZ_])
  go_loopg [1,5] k (fun kq v1 v5 w'=>∃ (x1_1 : Int) (x5_1 : Int),v1 = .int .i64 x1_1 ∧ v5 = .int .i64 x5_1 ∧ Aside0 (laws_szIndexS.l0 kq l0 x1_1 x5_1 = some r) ∧ Aside0 (kq ≤ k) ∧ Aside0 (Below w.heap.size w w'))
  case atStart=>exact ⟨(wrap64 (a1 - (l0.length : Int))),(0),(by first | rfl | (simp;done) | (simp [*];done)),(by first | rfl | (simp;done) | (simp [*];done)),H', ⟨Nat.le_refl _⟩,⟨by exact bZ_ HB⟩⟩
  case round =>
   clear H'
   clear c3b0
   obtain ⟨x1_1,x5_1,rfl,rfl,HA,HK1,HB⟩:=hrel
   cases gk with
   | zero=>exact absurd HA.out (by simp [laws_szIndexS.l0])
   | succ k1 =>
    have H:=HA.out
    clear HA
    simp only [laws_szIndexS.l0] at H
    by_cases c4 : x5_1 < (l0.length : Int)
    ·rw [if_pos c4] at H
     have c4b0 : decide (x5_1 < (l0.length : Int)) = true:=decide_eq_true c4
     clear c4
     by_cases c5 : 0 ≤ x5_1
     ·rw [if_pos c5] at H
      have c5b0 : decide (0 ≤ x5_1) = true:=decide_eq_true c5
      clear c5
      replace H:=oB_ H
      obtain ⟨t107,A60,H⟩:=H
      replace H : (if t107 < 0 then (some (-1)) else (laws_szIndexS.l0 k1 l0 t107 (wrap64 (x5_1 + 1)))) = some r:=H
      have A6:=aM_ A60
      clear A60
      by_cases c7 : t107 < 0
      ·rw [if_pos c7] at H
       have c7b0 : decide (t107 < 0) = true:=decide_eq_true c7
       clear c7
       obtain rfl:=Option.some.inj H
       have p106 : 0 ≤ (x5_1 : Int):=oT_ (by first | (with_reducible assumption) | assumption)
       have q106 : x5_1 < (l0.length : Int):=oT_ (by first | (with_reducible assumption) | assumption)
       obtain ⟨ad106,A106_2,c106_2,e106,hx106_0,hx106_1,hx106_2,hl106_2,hi106_2⟩:=at_T134 HR0.out x5_1 p106 q106
       cases e106
       replace hx106_0:=(HB.out.cell (wL_ w _ hx106_0)).trans hx106_0
       replace hx106_1:=(HB.out.cell (wL_ w _ hx106_1)).trans hx106_1
       replace hx106_2:=(HB.out.cell (wL_ w _ hx106_2)).trans hx106_2
       have HR106_2:=aM_ hi106_2
       have HC106_2:=aM_ hl106_2
       clear hi106_2 hl106_2
       replace p106:=eq_true p106
       replace q106:=eq_true q106
       go_wp2_with (first | ((with_reducible refine gate_callee (f:=113) rfl ?_);refine goesL_ (some 23) rfl rfl Tryd.func113 (by kernel_rfl) rfl #[.agg #[.string ((rd_T134 l0 x5_1).f0),.bool ((rd_T134 l0 x5_1).f1),.slice A106_2 ((rd_T134 l0 x5_1).f2).length c106_2],.int .i64 x1_1] rfl (by (try simp only [mA_,mC_,mN_]);first | done | rfl | (simp only [lD_,lT_];rfl)) ?_;(with_reducible refine (laws_szIndex.calls ((rd_T134 l0 x5_1).f0) ((rd_T134 l0 x5_1).f1) _ _ ((rd_T134 l0 x5_1).f2) x1_1 t107 _ ?side1 ?side2 A6.out).mono ?_);(case side1=>exact cZ_ HR106_2 HB);(case side2=>exact HC106_2.out);rintro e w8 ⟨rfl,hb⟩;refine ⟨_,rfl,?_⟩;have n0_:=aM_ (bT_ (by exact bZ_ HB) hb);clear HB;have HB:=n0_;clear n0_ hb))
       go_ret
       exact ⟨by first | rfl | (simp [errW_none,errW_some] <;> rfl) | (simp [*, errW_none,errW_some] <;> rfl),by exact bZ_ HB⟩
      ·rw [if_neg c7] at H
       have c7b0 : decide (t107 < 0) = false:=decide_eq_false c7
       clear c7
       have H':=aM_ H
       clear H
       have p106 : 0 ≤ (x5_1 : Int):=oT_ (by first | (with_reducible assumption) | assumption)
       have q106 : x5_1 < (l0.length : Int):=oT_ (by first | (with_reducible assumption) | assumption)
       obtain ⟨ad106,A106_2,c106_2,e106,hx106_0,hx106_1,hx106_2,hl106_2,hi106_2⟩:=at_T134 HR0.out x5_1 p106 q106
       cases e106
       replace hx106_0:=(HB.out.cell (wL_ w _ hx106_0)).trans hx106_0
       replace hx106_1:=(HB.out.cell (wL_ w _ hx106_1)).trans hx106_1
       replace hx106_2:=(HB.out.cell (wL_ w _ hx106_2)).trans hx106_2
       have HR106_2:=aM_ hi106_2
       have HC106_2:=aM_ hl106_2
       clear hi106_2 hl106_2
       replace p106:=eq_true p106
       replace q106:=eq_true q106
       go_wp2_with (first | ((with_reducible refine gate_callee (f:=113) rfl ?_);refine goesL_ (some 23) rfl rfl Tryd.func113 (by kernel_rfl) rfl #[.agg #[.string ((rd_T134 l0 x5_1).f0),.bool ((rd_T134 l0 x5_1).f1),.slice A106_2 ((rd_T134 l0 x5_1).f2).length c106_2],.int .i64 x1_1] rfl (by (try simp only [mA_,mC_,mN_]);first | done | rfl | (simp only [lD_,lT_];rfl)) ?_;(with_reducible refine (laws_szIndex.calls ((rd_T134 l0 x5_1).f0) ((rd_T134 l0 x5_1).f1) _ _ ((rd_T134 l0 x5_1).f2) x1_1 t107 _ ?side1 ?side2 A6.out).mono ?_);(case side1=>exact cZ_ HR106_2 HB);(case side2=>exact HC106_2.out);rintro e w9 ⟨rfl,hb⟩;refine ⟨_,rfl,?_⟩;have n0_:=aM_ (bT_ (by exact bZ_ HB) hb);clear HB;have HB:=n0_;clear n0_ hb))
       go_roundg k1
       case measure=>have:=HK1.out;omega
       case rel=>exact ⟨(t107),(wrap64 (x5_1 + 1)),(by first | rfl | (simp;done) | (simp [*];done)),(by first | rfl | (simp;done) | (simp [*];done)),H', ⟨by have:=HK1.out;omega⟩,⟨by exact bZ_ HB⟩⟩
     ·rw [if_neg c5] at H
      exact absurd H (by simp)
    ·rw [if_neg c4] at H
     have c4b0 : decide (x5_1 < (l0.length : Int)) = false:=decide_eq_false c4
     clear c4
     obtain rfl:=Option.some.inj H
     go_wp2
     go_ret
     exact ⟨by first | rfl | (simp [errW_none,errW_some] <;> rfl) | (simp [*, errW_none,errW_some] <;> rfl),by exact bZ_ HB⟩
def laws_szDef.f (k : Nat) (a0_0 : ByteArray) (l0_1 : List (S131)) (l0_2 : List (S137)) (l0_3 : List (S134)) (a1 : Int) : Option (Int):=if (wrap64 (a1 - (a0_0.size : Int))) < 0 then (some (-1)) else ((laws_szColS.f k l0_1 (wrap64 (a1 - (a0_0.size : Int)))).bind fun t109=>(if t109 < 0 then (some (-1)) else ((laws_szByS.f l0_2 t109).bind fun t110=>(if t110 < 0 then (some (-1)) else ((laws_szIndexS.f k l0_3 t110).bind fun t111=>(if t111 < 0 then (some (-1)) else (some t111)))))))
theorem laws_szDef.mono : ∀ a0 a1 a2 a3 a4 k,LeO (laws_szDef.f k a0 a1 a2 a3 a4) (laws_szDef.f (k + 1) a0 a1 a2 a3 a4):=by
 intro a0 a1 a2 a3 a4 k
 unfold laws_szDef.f
 repeat' first
   | (with_reducible exact laws_szColS.mono _ _ _)
   | (with_reducible exact laws_szIndexS.mono _ _ _)
   | (with_reducible exact LeO.refl _)
   | (with_reducible exact LeO.none _)
   | (with_reducible refine LeO.ite ?_ ?_)
   | (with_reducible refine LeO.bind ?_ (fun _=>?_))
   | exact laws_szColS.mono _ _ _
   | exact laws_szIndexS.mono _ _ _
   | exact LeO.none _
   | refine LeO.ite ?_ ?_
   | refine LeO.bind ?_ (fun _=>?_)
set_option maxHeartbeats 8000000 in
set_option maxRecDepth 100000 in
theorem laws_szDef.calls (k : Nat) (a0_0 : ByteArray) (A0_1 : Option Addr) (c0_1 : Nat) (l0_1 : List (S131)) (A0_2 : Option Addr) (c0_2 : Nat) (l0_2 : List (S137)) (A0_3 : Option Addr) (c0_3 : Nat) (l0_3 : List (S134)) (a1 : Int) (r : Int) (w : World) (hr0_1 : Kd.C k131 w A0_1 l0_1.length l0_1) (hc0_1 : l0_1.length ≤ c0_1) (hr0_2 : Kd.C k137 w A0_2 l0_2.length l0_2) (hc0_2 : l0_2.length ≤ c0_2) (hr0_3 : Kd.C k134 w A0_3 l0_3.length l0_3) (hc0_3 : l0_3.length ≤ c0_3) (h : laws_szDef.f k a0_0 l0_1 l0_2 l0_3 a1 = some r) :
  Calls Tryd.prog 28 #[.agg #[.string a0_0,.slice A0_1 l0_1.length c0_1,.slice A0_2 l0_2.length c0_2,.slice A0_3 l0_3.length c0_3],.int .i64 a1] w fun e w'=>e = .returned (.int .i64 r) ∧ Below w.heap.size w w':=by
 have hu46:=Tryd.underlying46
 have HR0_1:=aM_ hr0_1
 have HC0_1:=aM_ hc0_1
 clear hr0_1 hc0_1
 have HR0_2:=aM_ hr0_2
 have HC0_2:=aM_ hc0_2
 clear hr0_2 hc0_2
 have HR0_3:=aM_ hr0_3
 have HC0_3:=aM_ hc0_3
 clear hr0_3 hc0_3
 have HB:=aM_ (Below.refl w.heap.size w)
 have H : (if (wrap64 (a1 - (a0_0.size : Int))) < 0 then (some (-1)) else ((laws_szColS.f k l0_1 (wrap64 (a1 - (a0_0.size : Int)))).bind fun t109=>(if t109 < 0 then (some (-1)) else ((laws_szByS.f l0_2 t109).bind fun t110=>(if t110 < 0 then (some (-1)) else ((laws_szIndexS.f k l0_3 t110).bind fun t111=>(if t111 < 0 then (some (-1)) else (some t111)))))))) = some r:=h
 clear h
 by_cases c3 : (wrap64 (a1 - (a0_0.size : Int))) < 0
 ·rw [if_pos c3] at H
  have c3b0 : decide ((wrap64 (a1 - (a0_0.size : Int))) < 0) = true:=decide_eq_true c3
  clear c3
  obtain rfl:=Option.some.inj H
  go_enter Tryd.func28,Tryd.ntmps28
  go_wp2_with (first | ((with_reducible refine gate_dst (N:=2) rfl ?_);refine box_event ?hg (N:=2) ?hd (cs:=#[.string a0_0,.slice A0_1 l0_1.length c0_1,.slice A0_2 l0_2.length c0_2,.slice A0_3 l0_3.length c0_3]) (t:=46) ?hr ?_;(case hd=>rfl);(case hg=>rfl);(case hr=>first | (go_simp;done) | (go_simp;rfl));intro gb108 hg w4 hbox hb;have n0_:=aM_ (bT_ (by exact bZ_ HB) hb);have n1_:=aM_ (hbox);have n2_:=aM_ ((by rw [hg];exact (bS_ (by exact bZ_ HB)) : w.heap.size ≤ gb108));have n3_:=aM_ ((by rw [hg];exact (bS_ (by exact bZ_ HB)) : w.heap.size ≤ gb108));clear HB;have HB:=n0_;have BK108:=n1_;have GW108:=n2_;have GE108:=n3_;clear n0_ n1_ n2_ n3_ hb hbox hg;have hcz5_0 : w4.cell? ⟨gb108,0,none⟩ = some (.string a0_0):=(kC_ BK108.out 0).trans rfl;have hcz5_1 : w4.cell? ⟨gb108,1,none⟩ = some (.slice A0_1 l0_1.length c0_1):=(kC_ BK108.out 1).trans rfl;have hcz5_2 : w4.cell? ⟨gb108,2,none⟩ = some (.slice A0_2 l0_2.length c0_2):=(kC_ BK108.out 2).trans rfl;have hcz5_3 : w4.cell? ⟨gb108,3,none⟩ = some (.slice A0_3 l0_3.length c0_3):=(kC_ BK108.out 3).trans rfl;have hfz5_0:=kF_ BK108.out 0;have hfz5_1:=kF_ BK108.out 1;have hfz5_2:=kF_ BK108.out 2;have hfz5_3:=kF_ BK108.out 3))
  go_ret
  exact ⟨by first | rfl | (simp [errW_none,errW_some] <;> rfl) | (simp [*, errW_none,errW_some] <;> rfl),by exact bZ_ HB⟩
 ·rw [if_neg c3] at H
  have c3b0 : decide ((wrap64 (a1 - (a0_0.size : Int))) < 0) = false:=decide_eq_false c3
  clear c3
  replace H:=oB_ H
  obtain ⟨t109,A60,H⟩:=H
  replace H : (if t109 < 0 then (some (-1)) else ((laws_szByS.f l0_2 t109).bind fun t110=>(if t110 < 0 then (some (-1)) else ((laws_szIndexS.f k l0_3 t110).bind fun t111=>(if t111 < 0 then (some (-1)) else (some t111)))))) = some r:=H
  have A6:=aM_ A60
  clear A60
  by_cases c7 : t109 < 0
  ·rw [if_pos c7] at H
   have c7b0 : decide (t109 < 0) = true:=decide_eq_true c7
   clear c7
   obtain rfl:=Option.some.inj H
   go_enter Tryd.func28,Tryd.ntmps28
   go_wp2_with (first | ((with_reducible refine gate_dst (N:=2) rfl ?_);refine box_event ?hg (N:=2) ?hd (cs:=#[.string a0_0,.slice A0_1 l0_1.length c0_1,.slice A0_2 l0_2.length c0_2,.slice A0_3 l0_3.length c0_3]) (t:=46) ?hr ?_;(case hd=>rfl);(case hg=>rfl);(case hr=>first | (go_simp;done) | (go_simp;rfl));intro gb108 hg w8 hbox hb;have n0_:=aM_ (bT_ (by exact bZ_ HB) hb);have n1_:=aM_ (hbox);have n2_:=aM_ ((by rw [hg];exact (bS_ (by exact bZ_ HB)) : w.heap.size ≤ gb108));have n3_:=aM_ ((by rw [hg];exact (bS_ (by exact bZ_ HB)) : w.heap.size ≤ gb108));clear HB;have HB:=n0_;have BK108:=n1_;have GW108:=n2_;have GE108:=n3_;clear n0_ n1_ n2_ n3_ hb hbox hg;have hcz9_0 : w8.cell? ⟨gb108,0,none⟩ = some (.string a0_0):=(kC_ BK108.out 0).trans rfl;have hcz9_1 : w8.cell? ⟨gb108,1,none⟩ = some (.slice A0_1 l0_1.length c0_1):=(kC_ BK108.out 1).trans rfl;have hcz9_2 : w8.cell? ⟨gb108,2,none⟩ = some (.slice A0_2 l0_2.length c0_2):=(kC_ BK108.out 2).trans rfl;have hcz9_3 : w8.cell? ⟨gb108,3,none⟩ = some (.slice A0_3 l0_3.length c0_3):=(kC_ BK108.out 3).trans rfl;have hfz9_0:=kF_ BK108.out 0;have hfz9_1:=kF_ BK108.out 1;have hfz9_2:=kF_ BK108.out 2;have hfz9_3:=kF_ BK108.out 3) | ((with_reducible refine gate_callee (f:=70) rfl ?_);refine goesL_ (some 15) rfl rfl Tryd.func70 (by kernel_rfl) rfl #[.slice A0_1 l0_1.length c0_1,.int .i64 (wrap64 (a1 - (a0_0.size : Int)))] rfl (by (try simp only [mA_,mC_,mN_]);first | done | rfl | (simp only [lD_,lT_];rfl)) ?_;(with_reducible refine (laws_szColS.calls k _ _ l0_1 (wrap64 (a1 - (a0_0.size : Int))) t109 _ ?side1 ?side2 A6.out).mono ?_);(case side1=>exact cZ_ HR0_1 HB);(case side2=>exact HC0_1.out);rintro e w10 ⟨rfl,hb⟩;refine ⟨_,rfl,?_⟩;have n0_:=aM_ (blk_below (g:=gb108) (o:=.cells #[.string a0_0,.slice A0_1 l0_1.length c0_1,.slice A0_2 l0_2.length c0_2,.slice A0_3 l0_3.length c0_3] 46 (0,0)) (by exact kZ_ BK108) hb);have n1_:=aM_ (bT_ (by exact bZ_ HB) hb);clear BK108 HB;have BK108:=n0_;have HB:=n1_;clear n0_ n1_ hb))
   go_ret
   exact ⟨by first | rfl | (simp [errW_none,errW_some] <;> rfl) | (simp [*, errW_none,errW_some] <;> rfl),by exact bZ_ HB⟩
  ·rw [if_neg c7] at H
   have c7b0 : decide (t109 < 0) = false:=decide_eq_false c7
   clear c7
   replace H:=oB_ H
   obtain ⟨t110,A110,H⟩:=H
   replace H : (if t110 < 0 then (some (-1)) else ((laws_szIndexS.f k l0_3 t110).bind fun t111=>(if t111 < 0 then (some (-1)) else (some t111)))) = some r:=H
   have A11:=aM_ A110
   clear A110
   by_cases c12 : t110 < 0
   ·rw [if_pos c12] at H
    have c12b0 : decide (t110 < 0) = true:=decide_eq_true c12
    clear c12
    obtain rfl:=Option.some.inj H
    go_enter Tryd.func28,Tryd.ntmps28
    go_wp2_with (first | ((with_reducible refine gate_dst (N:=2) rfl ?_);refine box_event ?hg (N:=2) ?hd (cs:=#[.string a0_0,.slice A0_1 l0_1.length c0_1,.slice A0_2 l0_2.length c0_2,.slice A0_3 l0_3.length c0_3]) (t:=46) ?hr ?_;(case hd=>rfl);(case hg=>rfl);(case hr=>first | (go_simp;done) | (go_simp;rfl));intro gb108 hg w13 hbox hb;have n0_:=aM_ (bT_ (by exact bZ_ HB) hb);have n1_:=aM_ (hbox);have n2_:=aM_ ((by rw [hg];exact (bS_ (by exact bZ_ HB)) : w.heap.size ≤ gb108));have n3_:=aM_ ((by rw [hg];exact (bS_ (by exact bZ_ HB)) : w.heap.size ≤ gb108));clear HB;have HB:=n0_;have BK108:=n1_;have GW108:=n2_;have GE108:=n3_;clear n0_ n1_ n2_ n3_ hb hbox hg;have hcz14_0 : w13.cell? ⟨gb108,0,none⟩ = some (.string a0_0):=(kC_ BK108.out 0).trans rfl;have hcz14_1 : w13.cell? ⟨gb108,1,none⟩ = some (.slice A0_1 l0_1.length c0_1):=(kC_ BK108.out 1).trans rfl;have hcz14_2 : w13.cell? ⟨gb108,2,none⟩ = some (.slice A0_2 l0_2.length c0_2):=(kC_ BK108.out 2).trans rfl;have hcz14_3 : w13.cell? ⟨gb108,3,none⟩ = some (.slice A0_3 l0_3.length c0_3):=(kC_ BK108.out 3).trans rfl;have hfz14_0:=kF_ BK108.out 0;have hfz14_1:=kF_ BK108.out 1;have hfz14_2:=kF_ BK108.out 2;have hfz14_3:=kF_ BK108.out 3) | ((with_reducible refine gate_callee (f:=70) rfl ?_);refine goesL_ (some 15) rfl rfl Tryd.func70 (by kernel_rfl) rfl #[.slice A0_1 l0_1.length c0_1,.int .i64 (wrap64 (a1 - (a0_0.size : Int)))] rfl (by (try simp only [mA_,mC_,mN_]);first | done | rfl | (simp only [lD_,lT_];rfl)) ?_;(with_reducible refine (laws_szColS.calls k _ _ l0_1 (wrap64 (a1 - (a0_0.size : Int))) t109 _ ?side1 ?side2 A6.out).mono ?_);(case side1=>exact cZ_ HR0_1 HB);(case side2=>exact HC0_1.out);rintro e w15 ⟨rfl,hb⟩;refine ⟨_,rfl,?_⟩;have n0_:=aM_ (blk_below (g:=gb108) (o:=.cells #[.string a0_0,.slice A0_1 l0_1.length c0_1,.slice A0_2 l0_2.length c0_2,.slice A0_3 l0_3.length c0_3] 46 (0,0)) (by exact kZ_ BK108) hb);have n1_:=aM_ (bT_ (by exact bZ_ HB) hb);clear BK108 HB;have BK108:=n0_;have HB:=n1_;clear n0_ n1_ hb;have hcz16_0 : w15.cell? ⟨gb108,0,none⟩ = some (.string a0_0):=(kC_ BK108.out 0).trans rfl;have hcz16_1 : w15.cell? ⟨gb108,1,none⟩ = some (.slice A0_1 l0_1.length c0_1):=(kC_ BK108.out 1).trans rfl;have hcz16_2 : w15.cell? ⟨gb108,2,none⟩ = some (.slice A0_2 l0_2.length c0_2):=(kC_ BK108.out 2).trans rfl;have hcz16_3 : w15.cell? ⟨gb108,3,none⟩ = some (.slice A0_3 l0_3.length c0_3):=(kC_ BK108.out 3).trans rfl;have hfz16_0:=kF_ BK108.out 0;have hfz16_1:=kF_ BK108.out 1;have hfz16_2:=kF_ BK108.out 2;have hfz16_3:=kF_ BK108.out 3) | ((with_reducible refine gate_callee (f:=71) rfl ?_);refine goesL_ (some 21) rfl rfl Tryd.func71 (by kernel_rfl) rfl #[.slice A0_2 l0_2.length c0_2,.int .i64 t109] rfl (by (try simp only [mA_,mC_,mN_]);first | done | rfl | (simp only [lD_,lT_];rfl)) ?_;(with_reducible refine (laws_szByS.calls _ _ l0_2 t109 t110 _ ?side1 ?side2 A11.out).mono ?_);(case side1=>exact cZ_ HR0_2 HB);(case side2=>exact HC0_2.out);rintro e w' ⟨rfl,⟨nd,rfl⟩⟩;refine ⟨_,rfl,?_⟩))
    go_ret
    exact ⟨by first | rfl | (simp [errW_none,errW_some] <;> rfl) | (simp [*, errW_none,errW_some] <;> rfl),by exact bZ_ HB⟩
   ·rw [if_neg c12] at H
    have c12b0 : decide (t110 < 0) = false:=decide_eq_false c12
    clear c12
    replace H:=oB_ H
    obtain ⟨t111,A170,H⟩:=H
    replace H : (if t111 < 0 then (some (-1)) else (some t111)) = some r:=H
    have A17:=aM_ A170
    clear A170
    by_cases c18 : t111 < 0
    ·rw [if_pos c18] at H
     have c18b0 : decide (t111 < 0) = true:=decide_eq_true c18
     clear c18
     obtain rfl:=Option.some.inj H
     go_enter Tryd.func28,Tryd.ntmps28
     go_wp2_with (first | ((with_reducible refine gate_dst (N:=2) rfl ?_);refine box_event ?hg (N:=2) ?hd (cs:=#[.string a0_0,.slice A0_1 l0_1.length c0_1,.slice A0_2 l0_2.length c0_2,.slice A0_3 l0_3.length c0_3]) (t:=46) ?hr ?_;(case hd=>rfl);(case hg=>rfl);(case hr=>first | (go_simp;done) | (go_simp;rfl));intro gb108 hg w19 hbox hb;have n0_:=aM_ (bT_ (by exact bZ_ HB) hb);have n1_:=aM_ (hbox);have n2_:=aM_ ((by rw [hg];exact (bS_ (by exact bZ_ HB)) : w.heap.size ≤ gb108));have n3_:=aM_ ((by rw [hg];exact (bS_ (by exact bZ_ HB)) : w.heap.size ≤ gb108));clear HB;have HB:=n0_;have BK108:=n1_;have GW108:=n2_;have GE108:=n3_;clear n0_ n1_ n2_ n3_ hb hbox hg;have hcz20_0 : w19.cell? ⟨gb108,0,none⟩ = some (.string a0_0):=(kC_ BK108.out 0).trans rfl;have hcz20_1 : w19.cell? ⟨gb108,1,none⟩ = some (.slice A0_1 l0_1.length c0_1):=(kC_ BK108.out 1).trans rfl;have hcz20_2 : w19.cell? ⟨gb108,2,none⟩ = some (.slice A0_2 l0_2.length c0_2):=(kC_ BK108.out 2).trans rfl;have hcz20_3 : w19.cell? ⟨gb108,3,none⟩ = some (.slice A0_3 l0_3.length c0_3):=(kC_ BK108.out 3).trans rfl;have hfz20_0:=kF_ BK108.out 0;have hfz20_1:=kF_ BK108.out 1;have hfz20_2:=kF_ BK108.out 2;have hfz20_3:=kF_ BK108.out 3) | ((with_reducible refine gate_callee (f:=70) rfl ?_);refine goesL_ (some 15) rfl rfl Tryd.func70 (by kernel_rfl) rfl #[.slice A0_1 l0_1.length c0_1,.int .i64 (wrap64 (a1 - (a0_0.size : Int)))] rfl (by (try simp only [mA_,mC_,mN_]);first | done | rfl | (simp only [lD_,lT_];rfl)) ?_;(with_reducible refine (laws_szColS.calls k _ _ l0_1 (wrap64 (a1 - (a0_0.size : Int))) t109 _ ?side1 ?side2 A6.out).mono ?_);(case side1=>exact cZ_ HR0_1 HB);(case side2=>exact HC0_1.out);rintro e w21 ⟨rfl,hb⟩;refine ⟨_,rfl,?_⟩;have n0_:=aM_ (blk_below (g:=gb108) (o:=.cells #[.string a0_0,.slice A0_1 l0_1.length c0_1,.slice A0_2 l0_2.length c0_2,.slice A0_3 l0_3.length c0_3] 46 (0,0)) (by exact kZ_ BK108) hb);have n1_:=aM_ (bT_ (by exact bZ_ HB) hb);clear BK108 HB;have BK108:=n0_;have HB:=n1_;clear n0_ n1_ hb;have hcz22_0 : w21.cell? ⟨gb108,0,none⟩ = some (.string a0_0):=(kC_ BK108.out 0).trans rfl;have hcz22_1 : w21.cell? ⟨gb108,1,none⟩ = some (.slice A0_1 l0_1.length c0_1):=(kC_ BK108.out 1).trans rfl;have hcz22_2 : w21.cell? ⟨gb108,2,none⟩ = some (.slice A0_2 l0_2.length c0_2):=(kC_ BK108.out 2).trans rfl;have hcz22_3 : w21.cell? ⟨gb108,3,none⟩ = some (.slice A0_3 l0_3.length c0_3):=(kC_ BK108.out 3).trans rfl;have hfz22_0:=kF_ BK108.out 0;have hfz22_1:=kF_ BK108.out 1;have hfz22_2:=kF_ BK108.out 2;have hfz22_3:=kF_ BK108.out 3) | ((with_reducible refine gate_callee (f:=71) rfl ?_);refine goesL_ (some 21) rfl rfl Tryd.func71 (by kernel_rfl) rfl #[.slice A0_2 l0_2.length c0_2,.int .i64 t109] rfl (by (try simp only [mA_,mC_,mN_]);first | done | rfl | (simp only [lD_,lT_];rfl)) ?_;(with_reducible refine (laws_szByS.calls _ _ l0_2 t109 t110 _ ?side1 ?side2 A11.out).mono ?_);(case side1=>exact cZ_ HR0_2 HB);(case side2=>exact HC0_2.out);rintro e w' ⟨rfl,⟨nd,rfl⟩⟩;refine ⟨_,rfl,?_⟩) | ((with_reducible refine gate_callee (f:=72) rfl ?_);refine goesL_ (some 27) rfl rfl Tryd.func72 (by kernel_rfl) rfl #[.slice A0_3 l0_3.length c0_3,.int .i64 t110] rfl (by (try simp only [mA_,mC_,mN_]);first | done | rfl | (simp only [lD_,lT_];rfl)) ?_;(with_reducible refine (laws_szIndexS.calls k _ _ l0_3 t110 t111 _ ?side1 ?side2 A17.out).mono ?_);(case side1=>repeat (first | exact (Kd.C_below HR0_3.out (by exact bZ_ HB)) | (with_reducible refine cA_ ?_ _) | (with_reducible refine cN_ ?_ _) | (with_reducible refine cD_ ?_)));(case side2=>exact HC0_3.out);rintro e w23 ⟨rfl,hb⟩;refine ⟨_,rfl,?_⟩;have n0_:=aM_ (blk_below (g:=gb108) (o:=.cells #[.string a0_0,.slice A0_1 l0_1.length c0_1,.slice A0_2 l0_2.length c0_2,.slice A0_3 l0_3.length c0_3] 46 (0,0)) (by exact kZ_ BK108) hb);have n1_:=aM_ (bT_ (by exact bZ_ HB) hb);clear BK108 HB;have BK108:=n0_;have HB:=n1_;clear n0_ n1_ hb))
     go_ret
     exact ⟨by first | rfl | (simp [errW_none,errW_some] <;> rfl) | (simp [*, errW_none,errW_some] <;> rfl),by exact bZ_ HB⟩
    ·rw [if_neg c18] at H
     have c18b0 : decide (t111 < 0) = false:=decide_eq_false c18
     clear c18
     obtain rfl:=Option.some.inj H
     go_enter Tryd.func28,Tryd.ntmps28
     go_wp2_with (first | ((with_reducible refine gate_dst (N:=2) rfl ?_);refine box_event ?hg (N:=2) ?hd (cs:=#[.string a0_0,.slice A0_1 l0_1.length c0_1,.slice A0_2 l0_2.length c0_2,.slice A0_3 l0_3.length c0_3]) (t:=46) ?hr ?_;(case hd=>rfl);(case hg=>rfl);(case hr=>first | (go_simp;done) | (go_simp;rfl));intro gb108 hg w24 hbox hb;have n0_:=aM_ (bT_ (by exact bZ_ HB) hb);have n1_:=aM_ (hbox);have n2_:=aM_ ((by rw [hg];exact (bS_ (by exact bZ_ HB)) : w.heap.size ≤ gb108));have n3_:=aM_ ((by rw [hg];exact (bS_ (by exact bZ_ HB)) : w.heap.size ≤ gb108));clear HB;have HB:=n0_;have BK108:=n1_;have GW108:=n2_;have GE108:=n3_;clear n0_ n1_ n2_ n3_ hb hbox hg;have hcz25_0 : w24.cell? ⟨gb108,0,none⟩ = some (.string a0_0):=(kC_ BK108.out 0).trans rfl;have hcz25_1 : w24.cell? ⟨gb108,1,none⟩ = some (.slice A0_1 l0_1.length c0_1):=(kC_ BK108.out 1).trans rfl;have hcz25_2 : w24.cell? ⟨gb108,2,none⟩ = some (.slice A0_2 l0_2.length c0_2):=(kC_ BK108.out 2).trans rfl;have hcz25_3 : w24.cell? ⟨gb108,3,none⟩ = some (.slice A0_3 l0_3.length c0_3):=(kC_ BK108.out 3).trans rfl;have hfz25_0:=kF_ BK108.out 0;have hfz25_1:=kF_ BK108.out 1;have hfz25_2:=kF_ BK108.out 2;have hfz25_3:=kF_ BK108.out 3) | ((with_reducible refine gate_callee (f:=70) rfl ?_);refine goesL_ (some 15) rfl rfl Tryd.func70 (by kernel_rfl) rfl #[.slice A0_1 l0_1.length c0_1,.int .i64 (wrap64 (a1 - (a0_0.size : Int)))] rfl (by (try simp only [mA_,mC_,mN_]);first | done | rfl | (simp only [lD_,lT_];rfl)) ?_;(with_reducible refine (laws_szColS.calls k _ _ l0_1 (wrap64 (a1 - (a0_0.size : Int))) t109 _ ?side1 ?side2 A6.out).mono ?_);(case side1=>exact cZ_ HR0_1 HB);(case side2=>exact HC0_1.out);rintro e w26 ⟨rfl,hb⟩;refine ⟨_,rfl,?_⟩;have n0_:=aM_ (blk_below (g:=gb108) (o:=.cells #[.string a0_0,.slice A0_1 l0_1.length c0_1,.slice A0_2 l0_2.length c0_2,.slice A0_3 l0_3.length c0_3] 46 (0,0)) (by exact kZ_ BK108) hb);have n1_:=aM_ (bT_ (by exact bZ_ HB) hb);clear BK108 HB;have BK108:=n0_;have HB:=n1_;clear n0_ n1_ hb;have hcz27_0 : w26.cell? ⟨gb108,0,none⟩ = some (.string a0_0):=(kC_ BK108.out 0).trans rfl;have hcz27_1 : w26.cell? ⟨gb108,1,none⟩ = some (.slice A0_1 l0_1.length c0_1):=(kC_ BK108.out 1).trans rfl;have hcz27_2 : w26.cell? ⟨gb108,2,none⟩ = some (.slice A0_2 l0_2.length c0_2):=(kC_ BK108.out 2).trans rfl;have hcz27_3 : w26.cell? ⟨gb108,3,none⟩ = some (.slice A0_3 l0_3.length c0_3):=(kC_ BK108.out 3).trans rfl;have hfz27_0:=kF_ BK108.out 0;have hfz27_1:=kF_ BK108.out 1;have hfz27_2:=kF_ BK108.out 2;have hfz27_3:=kF_ BK108.out 3) | ((with_reducible refine gate_callee (f:=71) rfl ?_);refine goesL_ (some 21) rfl rfl Tryd.func71 (by kernel_rfl) rfl #[.slice A0_2 l0_2.length c0_2,.int .i64 t109] rfl (by (try simp only [mA_,mC_,mN_]);first | done | rfl | (simp only [lD_,lT_];rfl)) ?_;(with_reducible refine (laws_szByS.calls _ _ l0_2 t109 t110 _ ?side1 ?side2 A11.out).mono ?_);(case side1=>exact cZ_ HR0_2 HB);(case side2=>exact HC0_2.out);rintro e w' ⟨rfl,⟨nd,rfl⟩⟩;refine ⟨_,rfl,?_⟩) | ((with_reducible refine gate_callee (f:=72) rfl ?_);refine goesL_ (some 27) rfl rfl Tryd.func72 (by kernel_rfl) rfl #[.slice A0_3 l0_3.length c0_3,.int .i64 t110] rfl (by (try simp only [mA_,mC_,mN_]);first | done | rfl | (simp only [lD_,lT_];rfl)) ?_;(with_reducible refine (laws_szIndexS.calls k _ _ l0_3 t110 t111 _ ?side1 ?side2 A17.out).mono ?_);(case side1=>repeat (first | exact (Kd.C_below HR0_3.out (by exact bZ_ HB)) | (with_reducible refine cA_ ?_ _) | (with_reducible refine cN_ ?_ _) | (with_reducible refine cD_ ?_)));(case side2=>exact HC0_3.out);rintro e w28 ⟨rfl,hb⟩;refine ⟨_,rfl,?_⟩;have n0_:=aM_ (blk_below (g:=gb108) (o:=.cells #[.string a0_0,.slice A0_1 l0_1.length c0_1,.slice A0_2 l0_2.length c0_2,.slice A0_3 l0_3.length c0_3] 46 (0,0)) (by exact kZ_ BK108) hb);have n1_:=aM_ (bT_ (by exact bZ_ HB) hb);clear BK108 HB;have BK108:=n0_;have HB:=n1_;clear n0_ n1_ hb))
     go_ret
     exact ⟨by first | rfl | (simp [errW_none,errW_some] <;> rfl) | (simp [*, errW_none,errW_some] <;> rfl),by exact bZ_ HB⟩
def laws_szDefS.l0 : Nat → List (S46) → Int → Int → Option (Int)
 | 0,_,_,_=>none
 | k + 1,x0,x1,x5=>if x5 < (x0.length : Int) then (if 0 ≤ x5 then ((laws_szDef.f k ((rd_T46 x0 x5).f0) ((rd_T46 x0 x5).f1) ((rd_T46 x0 x5).f2) ((rd_T46 x0 x5).f3) x1).bind fun t113=>(if t113 < 0 then (some (-1)) else (laws_szDefS.l0 k x0 t113 (wrap64 (x5 + 1))))) else (none)) else (some x1)
def laws_szDefS.f (k : Nat) (l0 : List (S46)) (a1 : Int) : Option (Int):=if (wrap64 (a1 - (l0.length : Int))) < 0 then (some (-1)) else (laws_szDefS.l0 k l0 (wrap64 (a1 - (l0.length : Int))) 0)
theorem laws_szDefS.mono_l : ∀ k,(∀ y0 y1 y2,LeO (laws_szDefS.l0 k y0 y1 y2) (laws_szDefS.l0 (k + 1) y0 y1 y2))
 | 0=>fun _ _ _ r h=>by simp [laws_szDefS.l0] at h
 | k + 1=>by
  have ih0:=laws_szDefS.mono_l k
  ·intro y0 y1 y2
   unfold laws_szDefS.l0
   repeat' first
   | (with_reducible exact ih0 _ _ _)
   | (with_reducible exact laws_szDef.mono _ _ _ _ _ _)
   | (with_reducible exact LeO.refl _)
   | (with_reducible exact LeO.none _)
   | (with_reducible refine LeO.ite ?_ ?_)
   | (with_reducible refine LeO.bind ?_ (fun _=>?_))
   | exact ih0 _ _ _
   | exact laws_szDef.mono _ _ _ _ _ _
   | exact LeO.none _
   | refine LeO.ite ?_ ?_
   | refine LeO.bind ?_ (fun _=>?_)
theorem laws_szDefS.mono : ∀ a0 a1 k,LeO (laws_szDefS.f k a0 a1) (laws_szDefS.f (k + 1) a0 a1):=by
 intro a0 a1 k
 have ih0:=laws_szDefS.mono_l k
 unfold laws_szDefS.f
 repeat' first
   | (with_reducible exact ih0 _ _ _)
   | (with_reducible exact laws_szDef.mono _ _ _ _ _ _)
   | (with_reducible exact LeO.refl _)
   | (with_reducible exact LeO.none _)
   | (with_reducible refine LeO.ite ?_ ?_)
   | (with_reducible refine LeO.bind ?_ (fun _=>?_))
   | exact ih0 _ _ _
   | exact laws_szDef.mono _ _ _ _ _ _
   | exact LeO.none _
   | refine LeO.ite ?_ ?_
   | refine LeO.bind ?_ (fun _=>?_)
set_option maxHeartbeats 8000000 in
set_option maxRecDepth 100000 in
theorem laws_szDefS.calls (k : Nat) (A0 : Option Addr) (c0 : Nat) (l0 : List (S46)) (a1 : Int) (r : Int) (w : World) (hr0 : Kd.C k46 w A0 l0.length l0) (hc0 : l0.length ≤ c0) (h : laws_szDefS.f k l0 a1 = some r) :
  Calls Tryd.prog 14 #[.slice A0 l0.length c0,.int .i64 a1] w fun e w'=>e = .returned (.int .i64 r) ∧ Below w.heap.size w w':=by
 have hu46:=Tryd.underlying46
 have HR0:=aM_ hr0
 have HC0:=aM_ hc0
 clear hr0 hc0
 have HB:=aM_ (Below.refl w.heap.size w)
 have H : (if (wrap64 (a1 - (l0.length : Int))) < 0 then (some (-1)) else (laws_szDefS.l0 k l0 (wrap64 (a1 - (l0.length : Int))) 0)) = some r:=h
 clear h
 by_cases c3 : (wrap64 (a1 - (l0.length : Int))) < 0
 ·rw [if_pos c3] at H
  have c3b0 : decide ((wrap64 (a1 - (l0.length : Int))) < 0) = true:=decide_eq_true c3
  clear c3
  obtain rfl:=Option.some.inj H
  go_enter Tryd.func14,Tryd.ntmps14
  go_wp2
  go_ret
  exact ⟨by first | rfl | (simp [errW_none,errW_some] <;> rfl) | (simp [*, errW_none,errW_some] <;> rfl),by exact bZ_ HB⟩
 ·rw [if_neg c3] at H
  have c3b0 : decide ((wrap64 (a1 - (l0.length : Int))) < 0) = false:=decide_eq_false c3
  clear c3
  have H':=aM_ H
  clear H
  go_enter Tryd.func14,Tryd.ntmps14
  go_wp2
  (try simp only [Act.put,sI_,sS_,sZ_])
  go_loopg [1,5] k (fun kq v1 v5 w'=>∃ (x1_1 : Int) (x5_1 : Int),v1 = .int .i64 x1_1 ∧ v5 = .int .i64 x5_1 ∧ Aside0 (laws_szDefS.l0 kq l0 x1_1 x5_1 = some r) ∧ Aside0 (kq ≤ k) ∧ Aside0 (Below w.heap.size w w'))
  case atStart=>exact ⟨(wrap64 (a1 - (l0.length : Int))),(0),(by first | rfl | (simp;done) | (simp [*];done)),(by first | rfl | (simp;done) | (simp [*];done)),H', ⟨Nat.le_refl _⟩,⟨by exact bZ_ HB⟩⟩
  case round =>
   clear H'
   clear c3b0
   obtain ⟨x1_1,x5_1,rfl,rfl,HA,HK1,HB⟩:=hrel
   cases gk with
   | zero=>exact absurd HA.out (by simp [laws_szDefS.l0])
   | succ k1 =>
    have H:=HA.out
    clear HA
    simp only [laws_szDefS.l0] at H
    by_cases c4 : x5_1 < (l0.length : Int)
    ·rw [if_pos c4] at H
     have c4b0 : decide (x5_1 < (l0.length : Int)) = true:=decide_eq_true c4
     clear c4
     by_cases c5 : 0 ≤ x5_1
     ·rw [if_pos c5] at H
      have c5b0 : decide (0 ≤ x5_1) = true:=decide_eq_true c5
      clear c5
      replace H:=oB_ H
      obtain ⟨t113,A60,H⟩:=H
      replace H : (if t113 < 0 then (some (-1)) else (laws_szDefS.l0 k1 l0 t113 (wrap64 (x5_1 + 1)))) = some r:=H
      have A6:=aM_ A60
      clear A60
      by_cases c7 : t113 < 0
      ·rw [if_pos c7] at H
       have c7b0 : decide (t113 < 0) = true:=decide_eq_true c7
       clear c7
       obtain rfl:=Option.some.inj H
       have p112 : 0 ≤ (x5_1 : Int):=oT_ (by first | (with_reducible assumption) | assumption)
       have q112 : x5_1 < (l0.length : Int):=oT_ (by first | (with_reducible assumption) | assumption)
       obtain ⟨ad112,A112_1,c112_1,A112_2,c112_2,A112_3,c112_3,e112,hx112_0,hx112_1,hx112_2,hx112_3,hl112_1,hi112_1,hl112_2,hi112_2,hl112_3,hi112_3⟩:=at_T46 HR0.out x5_1 p112 q112
       cases e112
       replace hx112_0:=(HB.out.cell (wL_ w _ hx112_0)).trans hx112_0
       replace hx112_1:=(HB.out.cell (wL_ w _ hx112_1)).trans hx112_1
       replace hx112_2:=(HB.out.cell (wL_ w _ hx112_2)).trans hx112_2
       replace hx112_3:=(HB.out.cell (wL_ w _ hx112_3)).trans hx112_3
       have HR112_1:=aM_ hi112_1
       have HC112_1:=aM_ hl112_1
       clear hi112_1 hl112_1
       have HR112_2:=aM_ hi112_2
       have HC112_2:=aM_ hl112_2
       clear hi112_2 hl112_2
       have HR112_3:=aM_ hi112_3
       have HC112_3:=aM_ hl112_3
       clear hi112_3 hl112_3
       replace p112:=eq_true p112
       replace q112:=eq_true q112
       go_wp2_with (first | ((with_reducible refine gate_callee (f:=28) rfl ?_);refine goesL_ (some 23) rfl rfl Tryd.func28 (by kernel_rfl) rfl #[.agg #[.string ((rd_T46 l0 x5_1).f0),.slice A112_1 ((rd_T46 l0 x5_1).f1).length c112_1,.slice A112_2 ((rd_T46 l0 x5_1).f2).length c112_2,.slice A112_3 ((rd_T46 l0 x5_1).f3).length c112_3],.int .i64 x1_1] rfl (by (try simp only [mA_,mC_,mN_]);first | done | rfl | (simp only [lD_,lT_];rfl)) ?_;(with_reducible refine (laws_szDef.calls k1 ((rd_T46 l0 x5_1).f0) _ _ ((rd_T46 l0 x5_1).f1) _ _ ((rd_T46 l0 x5_1).f2) _ _ ((rd_T46 l0 x5_1).f3) x1_1 t113 _ ?side1 ?side2 ?side3 ?side4 ?side5 ?side6 A6.out).mono ?_);(case side1=>exact cZ_ HR112_1 HB);(case side2=>exact HC112_1.out);(case side3=>exact cZ_ HR112_2 HB);(case side4=>exact HC112_2.out);(case side5=>exact cZ_ HR112_3 HB);(case side6=>exact HC112_3.out);rintro e w8 ⟨rfl,hb⟩;refine ⟨_,rfl,?_⟩;have n0_:=aM_ (bT_ (by exact bZ_ HB) hb);clear HB;have HB:=n0_;clear n0_ hb))
       go_ret
       exact ⟨by first | rfl | (simp [errW_none,errW_some] <;> rfl) | (simp [*, errW_none,errW_some] <;> rfl),by exact bZ_ HB⟩
      ·rw [if_neg c7] at H
       have c7b0 : decide (t113 < 0) = false:=decide_eq_false c7
       clear c7
       have H':=aM_ H
       clear H
       have p112 : 0 ≤ (x5_1 : Int):=oT_ (by first | (with_reducible assumption) | assumption)
       have q112 : x5_1 < (l0.length : Int):=oT_ (by first | (with_reducible assumption) | assumption)
       obtain ⟨ad112,A112_1,c112_1,A112_2,c112_2,A112_3,c112_3,e112,hx112_0,hx112_1,hx112_2,hx112_3,hl112_1,hi112_1,hl112_2,hi112_2,hl112_3,hi112_3⟩:=at_T46 HR0.out x5_1 p112 q112
       cases e112
       replace hx112_0:=(HB.out.cell (wL_ w _ hx112_0)).trans hx112_0
       replace hx112_1:=(HB.out.cell (wL_ w _ hx112_1)).trans hx112_1
       replace hx112_2:=(HB.out.cell (wL_ w _ hx112_2)).trans hx112_2
       replace hx112_3:=(HB.out.cell (wL_ w _ hx112_3)).trans hx112_3
       have HR112_1:=aM_ hi112_1
       have HC112_1:=aM_ hl112_1
       clear hi112_1 hl112_1
       have HR112_2:=aM_ hi112_2
       have HC112_2:=aM_ hl112_2
       clear hi112_2 hl112_2
       have HR112_3:=aM_ hi112_3
       have HC112_3:=aM_ hl112_3
       clear hi112_3 hl112_3
       replace p112:=eq_true p112
       replace q112:=eq_true q112
       go_wp2_with (first | ((with_reducible refine gate_callee (f:=28) rfl ?_);refine goesL_ (some 23) rfl rfl Tryd.func28 (by kernel_rfl) rfl #[.agg #[.string ((rd_T46 l0 x5_1).f0),.slice A112_1 ((rd_T46 l0 x5_1).f1).length c112_1,.slice A112_2 ((rd_T46 l0 x5_1).f2).length c112_2,.slice A112_3 ((rd_T46 l0 x5_1).f3).length c112_3],.int .i64 x1_1] rfl (by (try simp only [mA_,mC_,mN_]);first | done | rfl | (simp only [lD_,lT_];rfl)) ?_;(with_reducible refine (laws_szDef.calls k1 ((rd_T46 l0 x5_1).f0) _ _ ((rd_T46 l0 x5_1).f1) _ _ ((rd_T46 l0 x5_1).f2) _ _ ((rd_T46 l0 x5_1).f3) x1_1 t113 _ ?side1 ?side2 ?side3 ?side4 ?side5 ?side6 A6.out).mono ?_);(case side1=>exact cZ_ HR112_1 HB);(case side2=>exact HC112_1.out);(case side3=>exact cZ_ HR112_2 HB);(case side4=>exact HC112_2.out);(case side5=>exact cZ_ HR112_3 HB);(case side6=>exact HC112_3.out);rintro e w9 ⟨rfl,hb⟩;refine ⟨_,rfl,?_⟩;have n0_:=aM_ (bT_ (by exact bZ_ HB) hb);clear HB;have HB:=n0_;clear n0_ hb))
       go_roundg k1
       case measure=>have:=HK1.out;omega
       case rel=>exact ⟨(t113),(wrap64 (x5_1 + 1)),(by first | rfl | (simp;done) | (simp [*];done)),(by first | rfl | (simp;done) | (simp [*];done)),H', ⟨by have:=HK1.out;omega⟩,⟨by exact bZ_ HB⟩⟩
     ·rw [if_neg c5] at H
      exact absurd H (by simp)
    ·rw [if_neg c4] at H
     have c4b0 : decide (x5_1 < (l0.length : Int)) = false:=decide_eq_false c4
     clear c4
     obtain rfl:=Option.some.inj H
     go_wp2
     go_ret
     exact ⟨by first | rfl | (simp [errW_none,errW_some] <;> rfl) | (simp [*, errW_none,errW_some] <;> rfl),by exact bZ_ HB⟩
def laws_toCol.f (a0_0 : ByteArray) (a0_1 : Int) (a0_2 : Bool) : Option (ByteArray × Int × Bool):=some (a0_0,a0_1,a0_2)
set_option maxHeartbeats 8000000 in
set_option maxRecDepth 100000 in
theorem laws_toCol.calls (a0_0 : ByteArray) (a0_1 : Int) (a0_2 : Bool) (r1 : ByteArray) (r2 : Int) (r3 : Bool) (w : World) (h : laws_toCol.f a0_0 a0_1 a0_2 = some (r1,r2,r3)) :
  Calls Tryd.prog 114 #[.agg #[.string a0_0,.int .i64 a0_1,.bool a0_2]] w fun e w'=>e = .returned (.agg #[.string r1,.int .i64 r2,.bool r3]) ∧ Below w.heap.size w w':=by
 have hu131:=Tryd.underlying131
 have hu82:=Tryd.underlying82
 have HB:=aM_ (Below.refl w.heap.size w)
 have H : (some (a0_0,a0_1,a0_2)) = some (r1,r2,r3):=h
 clear h
 simp only [Option.some.injEq,Prod.mk.injEq] at H
 obtain ⟨rfl,rfl,rfl⟩:=H
 go_enter Tryd.func114,Tryd.ntmps114
 go_wp2_with (first | ((with_reducible refine gate_dst (N:=1) rfl ?_);refine box_event ?hg (N:=1) ?hd (cs:=#[.string a0_0,.int .i64 a0_1,.bool a0_2]) (t:=131) ?hr ?_;(case hd=>rfl);(case hg=>rfl);(case hr=>first | (go_simp;done) | (go_simp;rfl));intro gb114 hg w2 hbox hb;have n0_:=aM_ (bT_ (by exact bZ_ HB) hb);have n1_:=aM_ (hbox);have n2_:=aM_ ((by rw [hg];exact (bS_ (by exact bZ_ HB)) : w.heap.size ≤ gb114));have n3_:=aM_ ((by rw [hg];exact (bS_ (by exact bZ_ HB)) : w.heap.size ≤ gb114));clear HB;have HB:=n0_;have BK114:=n1_;have GW114:=n2_;have GE114:=n3_;clear n0_ n1_ n2_ n3_ hb hbox hg) | ((with_reducible refine gate_dst (N:=2) rfl ?_);refine box_event ?hg (N:=2) ?hd (cs:=#[.string (⟨#[]⟩ : ByteArray),.int .i64 0,.bool false]) (t:=82) ?hr ?_;(case hd=>rfl);(case hg=>rfl);(case hr=>first | (go_simp;done) | (go_simp;rfl));intro gb115 hg w3 hbox hb;have n0_:=aM_ (blk_below (g:=gb114) (o:=.cells #[.string a0_0,.int .i64 a0_1,.bool a0_2] 131 (0,0)) (by exact kZ_ BK114) hb);have n1_:=aM_ (bT_ (by exact bZ_ HB) hb);have n2_:=aM_ (hbox);have n3_:=aM_ ((by rw [hg];exact (bS_ (by exact bZ_ HB)) : w.heap.size ≤ gb115));have n4_:=aM_ ((by rw [hg];exact (bS_ (by exact bZ_ HB)) : w.heap.size ≤ gb115));have n5_:=aM_ ((by rw [hg];exact nN_ (blk_lt (g:=gb114) (o:=.cells #[.string a0_0,.int .i64 a0_1,.bool a0_2] 131 (0,0)) (by exact kZ_ BK114)) : gb114 ≠ gb115));have n6_:=aM_ ((by rw [hg];exact Nat.ne_of_gt (blk_lt (g:=gb114) (o:=.cells #[.string a0_0,.int .i64 a0_1,.bool a0_2] 131 (0,0)) (by exact kZ_ BK114)) : gb115 ≠ gb114));clear BK114 HB;have BK114:=n0_;have HB:=n1_;have BK115:=n2_;have GW115:=n3_;have GE115:=n4_;have NB114_115:=n5_;have NB115_114:=n6_;clear n0_ n1_ n2_ n3_ n4_ n5_ n6_ hb hbox hg) | ((with_reducible refine gate_dst (N:=3) rfl ?_);refine box_event ?hg (N:=3) ?hd (cs:=#[.string (⟨#[]⟩ : ByteArray),.int .i64 0,.bool false]) (t:=82) ?hr ?_;(case hd=>rfl);(case hg=>rfl);(case hr=>first | (go_simp;done) | (go_simp;rfl));intro gb116 hg w4 hbox hb;have n0_:=aM_ (blk_below (g:=gb114) (o:=.cells #[.string a0_0,.int .i64 a0_1,.bool a0_2] 131 (0,0)) (by exact kZ_ BK114) hb);have n1_:=aM_ (blk_below (g:=gb115) (o:=.cells #[.string (⟨#[]⟩ : ByteArray),.int .i64 0,.bool false] 82 (0,0)) (by exact kZ_ BK115) hb);have n2_:=aM_ (bT_ (by exact bZ_ HB) hb);have n3_:=aM_ (hbox);have n4_:=aM_ ((by rw [hg];exact (bS_ (by exact bZ_ HB)) : w.heap.size ≤ gb116));have n5_:=aM_ ((by rw [hg];exact (bS_ (by exact bZ_ HB)) : w.heap.size ≤ gb116));have n6_:=aM_ ((by rw [hg];exact nN_ (blk_lt (g:=gb114) (o:=.cells #[.string a0_0,.int .i64 a0_1,.bool a0_2] 131 (0,0)) (by exact kZ_ BK114)) : gb114 ≠ gb116));have n7_:=aM_ ((by rw [hg];exact Nat.ne_of_gt (blk_lt (g:=gb114) (o:=.cells #[.string a0_0,.int .i64 a0_1,.bool a0_2] 131 (0,0)) (by exact kZ_ BK114)) : gb116 ≠ gb114));have n8_:=aM_ ((by rw [hg];exact nN_ (blk_lt (g:=gb115) (o:=.cells #[.string (⟨#[]⟩ : ByteArray),.int .i64 0,.bool false] 82 (0,0)) (by exact kZ_ BK115)) : gb115 ≠ gb116));have n9_:=aM_ ((by rw [hg];exact Nat.ne_of_gt (blk_lt (g:=gb115) (o:=.cells #[.string (⟨#[]⟩ : ByteArray),.int .i64 0,.bool false] 82 (0,0)) (by exact kZ_ BK115)) : gb116 ≠ gb115));clear BK114 BK115 HB;have BK114:=n0_;have BK115:=n1_;have HB:=n2_;have BK116:=n3_;have GW116:=n4_;have GE116:=n5_;have NB114_116:=n6_;have NB116_114:=n7_;have NB115_116:=n8_;have NB116_115:=n9_;clear n0_ n1_ n2_ n3_ n4_ n5_ n6_ n7_ n8_ n9_ hb hbox hg;have hnb5:=NB114_115.out;have hnc5:=NB115_114.out;have hnb6:=NB114_116.out;have hnc6:=NB116_114.out;have hcz7_0 : w4.cell? ⟨gb114,0,none⟩ = some (.string a0_0):=(kC_ BK114.out 0).trans rfl;have hcz7_1 : w4.cell? ⟨gb114,1,none⟩ = some (.int .i64 a0_1):=(kC_ BK114.out 1).trans rfl;have hcz7_2 : w4.cell? ⟨gb114,2,none⟩ = some (.bool a0_2):=(kC_ BK114.out 2).trans rfl;have hfz7_0:=kF_ BK114.out 0;have hfz7_1:=kF_ BK114.out 1;have hfz7_2:=kF_ BK114.out 2;have hnb8:=NB116_115.out;have hnc8:=NB115_116.out;have hcz9_0 : w4.cell? ⟨gb116,0,none⟩ = some (.string (⟨#[]⟩ : ByteArray)):=(kC_ BK116.out 0).trans rfl;have hcz9_1 : w4.cell? ⟨gb116,1,none⟩ = some (.int .i64 0):=(kC_ BK116.out 1).trans rfl;have hcz9_2 : w4.cell? ⟨gb116,2,none⟩ = some (.bool false):=(kC_ BK116.out 2).trans rfl;have hfz9_0:=kF_ BK116.out 0;have hfz9_1:=kF_ BK116.out 1;have hfz9_2:=kF_ BK116.out 2;have hcz10_0 : w4.cell? ⟨gb115,0,none⟩ = some (.string (⟨#[]⟩ : ByteArray)):=(kC_ BK115.out 0).trans rfl;have hcz10_1 : w4.cell? ⟨gb115,1,none⟩ = some (.int .i64 0):=(kC_ BK115.out 1).trans rfl;have hcz10_2 : w4.cell? ⟨gb115,2,none⟩ = some (.bool false):=(kC_ BK115.out 2).trans rfl;have hfz10_0:=kF_ BK115.out 0;have hfz10_1:=kF_ BK115.out 1;have hfz10_2:=kF_ BK115.out 2))
 refine bodyPost_ret (results_cell_row rfl _ _ gb115 82 #[.string a0_0,.int .i64 a0_1,.bool a0_2] (0,0) _ rfl (by (with_reducible repeat (first | refine kN_ ?_ _ | refine kD_ ?_ | refine kA_ ?_ _));refine kP_ (cs:=#[.string a0_0,.int .i64 a0_1,.bool false]) ?_ 2 _ rfl;(with_reducible repeat (first | refine kN_ ?_ _ | refine kD_ ?_ | refine kA_ ?_ _));refine kP_ (cs:=#[.string a0_0,.int .i64 0,.bool false]) ?_ 1 _ rfl;(with_reducible repeat (first | refine kN_ ?_ _ | refine kD_ ?_ | refine kA_ ?_ _));refine kP_ (cs:=#[.string (⟨#[]⟩ : ByteArray),.int .i64 0,.bool false]) ?_ 0 _ rfl;exact kW_ BK115) Tryd.underlying82 rfl (by kernel_rfl)) rfl ?_
 exact ⟨by first | rfl | (simp [errW_none,errW_some] <;> rfl) | (simp [*, errW_none,errW_some] <;> rfl),by exact bZ_ HB⟩
def laws_toColS.l0 : Nat → List (S131) → List (S82) → Int → Option ((List (S82)))
 | 0,_,_,_=>none
 | k + 1,x0,x3,x4=>if x4 < (x0.length : Int) then (if 0 ≤ x4 then ((laws_toCol.f ((rd_T131 x0 x4).f0) ((rd_T131 x0 x4).f1) ((rd_T131 x0 x4).f2)).bind fun bt121=>(if x4 < (x3.length : Int) then (laws_toColS.l0 k x0 (x3.set (x4 : Int).toNat (⟨bt121.1,bt121.2.1,bt121.2.2⟩ : S82)) (wrap64 (x4 + 1))) else (none))) else (none)) else (some x3)
def laws_toColS.f (k : Nat) (l0 : List (S131)) : Option ((List (S82))):=if 0 ≤ (l0.length : Int) then (if ((l0.length : Int) : Int).toNat ≤ 8796093022208 then (laws_toColS.l0 k l0 (List.replicate ((l0.length : Int) : Int).toNat z82) 0) else (none)) else (none)
theorem laws_toColS.mono_l : ∀ k,(∀ y0 y1 y2,LeO (laws_toColS.l0 k y0 y1 y2) (laws_toColS.l0 (k + 1) y0 y1 y2))
 | 0=>fun _ _ _ r h=>by simp [laws_toColS.l0] at h
 | k + 1=>by
  have ih0:=laws_toColS.mono_l k
  ·intro y0 y1 y2
   unfold laws_toColS.l0
   repeat' first
   | (with_reducible exact ih0 _ _ _)
   | (with_reducible exact LeO.refl _)
   | (with_reducible exact LeO.none _)
   | (with_reducible refine LeO.ite ?_ ?_)
   | (with_reducible refine LeO.bind ?_ (fun _=>?_))
   | exact ih0 _ _ _
   | exact LeO.none _
   | refine LeO.ite ?_ ?_
   | refine LeO.bind ?_ (fun _=>?_)
theorem laws_toColS.mono : ∀ a0 k,LeO (laws_toColS.f k a0) (laws_toColS.f (k + 1) a0):=by
 intro a0 k
 have ih0:=laws_toColS.mono_l k
 unfold laws_toColS.f
 repeat' first
   | (with_reducible exact ih0 _ _ _)
   | (with_reducible exact LeO.refl _)
   | (with_reducible exact LeO.none _)
   | (with_reducible refine LeO.ite ?_ ?_)
   | (with_reducible refine LeO.bind ?_ (fun _=>?_))
   | exact ih0 _ _ _
   | exact LeO.none _
   | refine LeO.ite ?_ ?_
   | refine LeO.bind ?_ (fun _=>?_)
set_option maxHeartbeats 8000000 in
set_option maxRecDepth 100000 in
theorem laws_toColS.calls (k : Nat) (A0 : Option Addr) (c0 : Nat) (l0 : List (S131)) (r : List (S82)) (w : World) (hr0 : Kd.C k131 w A0 l0.length l0) (hc0 : l0.length ≤ c0) (h : laws_toColS.f k l0 = some r) :
  Calls Tryd.prog 73 #[.slice A0 l0.length c0] w fun e w'=>∃ v0_ : Value,e = .returned (v0_) ∧ Kd.R k82 82 w' w.heap.size (fun _=>True) v0_ r ∧ Below w.heap.size w w':=by
 have hu131:=Tryd.underlying131
 have hu82:=Tryd.underlying82
 have HR0:=aM_ hr0
 have HC0:=aM_ hc0
 clear hr0 hc0
 have HB:=aM_ (Below.refl w.heap.size w)
 have H : (if 0 ≤ (l0.length : Int) then (if ((l0.length : Int) : Int).toNat ≤ 8796093022208 then (laws_toColS.l0 k l0 (List.replicate ((l0.length : Int) : Int).toNat z82) 0) else (none)) else (none)) = some r:=h
 clear h
 by_cases c2 : 0 ≤ (l0.length : Int)
 ·rw [if_pos c2] at H
  have c2b0:=eq_true c2
  have c2b1 : decide (0 ≤ (l0.length : Int)) = true:=decide_eq_true c2
  clear c2
  by_cases c3 : ((l0.length : Int) : Int).toNat ≤ 8796093022208
  ·rw [if_pos c3] at H
   have c3b0:=eq_true c3
   have c3b1 : decide (((l0.length : Int) : Int).toNat ≤ 8796093022208) = true:=decide_eq_true c3
   clear c3
   obtain ⟨y117,hy117⟩ : ∃ y_ : List (S82),y_ = (List.replicate ((l0.length : Int) : Int).toNat z82):=⟨_,rfl⟩
   replace H : (laws_toColS.l0 k l0 y117 0) = some r:=by first | (rw [hy117];with_reducible exact H) | (have H2_:=(Option.bind_some _ _).symm.trans H;rw [hy117];with_reducible exact H2_) | (have H2_:=(Option.bind_some _ _).symm.trans H;with_reducible exact H2_) | with_reducible exact H | (rw [hy117];exact H) | exact H
   have Ny117:=aM_ hy117
   clear hy117
   have H':=aM_ H
   clear H
   go_enter Tryd.func73,Tryd.ntmps73
   go_wp2_with (first | ((with_reducible refine gate_dst (N:=7) rfl ?_);refine Kd.R_make k82 _ 82 rfl (N:=7) rfl 31 _ _ rfl (l0.length : Int) rfl rfl Tryd.underlying31 (.agg #[(.string ⟨#[]⟩),(.int .i64 0),(.bool false)]) 32 info82 rfl (by decide) (by omega) z82 (ok:=fun _=>True) (okp:=fun _=>True) (k82_mkM _ _ _ z82 ) (fun _ hk=>hk) trivial (oT_ (by first | (with_reducible assumption) | assumption)) (Nat.le_trans (Nat.mul_le_mul_right _ (oT_ (by first | (with_reducible assumption) | assumption) : (l0.length : Int).toNat ≤ 8796093022208)) (by omega)) (Below.refl _ _) (Nat.le_refl _) ?_;intro v118 w4 ho5 hb hg_ hnew_;clear hg_ hnew_;(first | rw [← Ny117.out] at ho5 | (simp only [Int.reduceToNat] at ho5;rw [← Ny117.out] at ho5));have n0_:=aM_ (Kd.R_lower ho5 (bS_ (by exact bZ_ HB)));have n1_:=aM_ (bT_ (by exact bZ_ HB) hb);clear HB;have HO119:=n0_;have HB:=n1_;clear n0_ n1_ hb ho5))
   (try simp only [Act.put,sI_,sS_,sZ_])
   go_loopg [4] k (fun kq v4 w'=>∃ (x3_1 : List (S82)) (x4_1 : Int),v4 = .int .i64 x4_1 ∧ Aside0 (laws_toColS.l0 kq l0 x3_1 x4_1 = some r) ∧ Aside0 (kq ≤ k) ∧ Aside0 (Kd.R k82 82 w' w.heap.size (fun _=>True) v118 x3_1) ∧ Aside0 (Below w.heap.size w w'))
   case atStart=>exact ⟨(y117),(0),(by first | rfl | (simp;done) | (simp [*];done)),H', ⟨Nat.le_refl _⟩,⟨by exact rZ_ HO119⟩,⟨by exact bZ_ HB⟩⟩
   case round =>
    clear H'
    clear c2b0 c2b1 c3b0 c3b1
    obtain ⟨x3_1,x4_1,rfl,HA,HK1,HO_3,HB⟩:=hrel
    cases gk with
    | zero=>exact absurd HA.out (by simp [laws_toColS.l0])
    | succ k1 =>
     have H:=HA.out
     clear HA
     simp only [laws_toColS.l0] at H
     by_cases c6 : x4_1 < (l0.length : Int)
     ·rw [if_pos c6] at H
      have c6b0 : decide (x4_1 < (l0.length : Int)) = true:=decide_eq_true c6
      clear c6
      by_cases c7 : 0 ≤ x4_1
      ·rw [if_pos c7] at H
       have c7b0 : decide (0 ≤ x4_1) = true:=decide_eq_true c7
       clear c7
       replace H:=oB_ H
       obtain ⟨⟨t121,t122,t123⟩,A80,H⟩:=H
       replace H : (if x4_1 < (x3_1.length : Int) then (laws_toColS.l0 k1 l0 (x3_1.set (x4_1 : Int).toNat (⟨t121,t122,t123⟩ : S82)) (wrap64 (x4_1 + 1))) else (none)) = some r:=H
       have A8:=aM_ A80
       clear A80
       by_cases c9 : x4_1 < (x3_1.length : Int)
       ·rw [if_pos c9] at H
        have c9b0 : decide (x4_1 < (x3_1.length : Int)) = true:=decide_eq_true c9
        clear c9
        obtain ⟨y124,hy124⟩ : ∃ y_ : List (S82),y_ = (x3_1.set (x4_1 : Int).toNat (⟨t121,t122,t123⟩ : S82)):=⟨_,rfl⟩
        replace H : (laws_toColS.l0 k1 l0 y124 (wrap64 (x4_1 + 1))) = some r:=by first | (rw [hy124];with_reducible exact H) | (have H2_:=(Option.bind_some _ _).symm.trans H;rw [hy124];with_reducible exact H2_) | (have H2_:=(Option.bind_some _ _).symm.trans H;with_reducible exact H2_) | with_reducible exact H | (rw [hy124];exact H) | exact H
        have Ny124:=aM_ hy124
        clear hy124
        have H':=aM_ H
        clear H
        have p120 : 0 ≤ (x4_1 : Int):=oT_ (by first | (with_reducible assumption) | assumption)
        have q120 : x4_1 < (l0.length : Int):=oT_ (by first | (with_reducible assumption) | assumption)
        obtain ⟨ad120,e120,hx120_0,hx120_1,hx120_2⟩:=at_T131 HR0.out x4_1 p120 q120
        cases e120
        replace hx120_0:=(HB.out.cell (wL_ w _ hx120_0)).trans hx120_0
        replace hx120_1:=(HB.out.cell (wL_ w _ hx120_1)).trans hx120_1
        replace hx120_2:=(HB.out.cell (wL_ w _ hx120_2)).trans hx120_2
        replace p120:=eq_true p120
        replace q120:=eq_true q120
        go_wp2_with (first | ((with_reducible refine gate_callee (f:=114) rfl ?_);refine goesL_ (some 20) rfl rfl Tryd.func114 (by kernel_rfl) rfl #[.agg #[.string ((rd_T131 l0 x4_1).f0),.int .i64 ((rd_T131 l0 x4_1).f1),.bool ((rd_T131 l0 x4_1).f2)]] rfl (by (try simp only [mA_,mC_,mN_]);first | done | rfl | (simp only [lD_,lT_];rfl)) ?_;(with_reducible refine (laws_toCol.calls ((rd_T131 l0 x4_1).f0) ((rd_T131 l0 x4_1).f1) ((rd_T131 l0 x4_1).f2) t121 t122 t123 _ A8.out).mono ?_);rintro e w11 ⟨rfl,hb⟩;refine ⟨_,rfl,?_⟩;have n0_:=aM_ (Kd.R_below (by exact rZ_ HO_3) hb);have n1_:=aM_ (bT_ (by exact bZ_ HB) hb);clear HO_3 HB;have HO_3:=n0_;have HB:=n1_;clear n0_ n1_ hb;have p10 : 0 ≤ (x4_1 : Int):=oT_ (by first | (with_reducible assumption) | assumption);have q10 : (x4_1 : Int) < ((x3_1.length : Int) : Int):=oT_ (by first | (with_reducible assumption) | assumption);obtain ⟨go10,co10,eo10,gb10,gl10,cl10,HG10⟩:=Kd.R_form HO_3.out (by omega);(first | cases eo10 | (injection eo10 with ea_ en_ ec_;(first | subst ea_ | (injection ea_ with ea_;subst ea_));subst ec_;clear en_));have GB10:=aM_ gb10;have GG10:=aM_ HG10;clear gb10 gl10 HG10;obtain ⟨ce10,hcl10,hM10,hcc10,hfr10⟩:=Kd.R_elem HO_3.out z82 (x4_1 : Int) p10 q10;obtain rfl:=k82_openM hM10;have hx10_0 : w11.cell? ⟨go10,(x4_1 : Int).toNat * 3,none⟩ = some (.string ((rd_T82 x3_1 x4_1).f0)):=hcc10 0 _ rfl;have hx10_1 : w11.cell? ⟨go10,(x4_1 : Int).toNat * 3 + 1,none⟩ = some (.int .i64 ((rd_T82 x3_1 x4_1).f1)):=hcc10 1 _ rfl;have hx10_2 : w11.cell? ⟨go10,(x4_1 : Int).toNat * 3 + 2,none⟩ = some (.bool ((rd_T82 x3_1 x4_1).f2)):=hcc10 2 _ rfl;have hf10_0 : w11.frozen? ⟨go10,(x4_1 : Int).toNat * 3,none⟩ = false:=hfr10 0;have hf10_1 : w11.frozen? ⟨go10,(x4_1 : Int).toNat * 3 + 1,none⟩ = false:=hfr10 1;have hf10_2 : w11.frozen? ⟨go10,(x4_1 : Int).toNat * 3 + 2,none⟩ = false:=hfr10 2;clear hM10 hcl10 hcc10 hfr10;replace p10:=eq_true p10;replace q10:=eq_true q10;have HX12:=aM_ (show Kd.R k82 82 w11 w.heap.size (fun _=>True) (.slice (some ⟨go10,0,none⟩) x3_1.length co10) x3_1 from (by exact rZ_ HO_3));obtain ⟨ce12,hcl12,hM12,hcc12,hfr12⟩:=Kd.R_elem HX12.out z82 (x4_1 : Int) (oT_ (by first | (with_reducible assumption) | assumption)) (by have h_ : (x4_1 : Int) < ((x3_1.length : Int) : Int):=oT_ (by first | (with_reducible assumption) | assumption);first | exact h_ | (have e_:=(Kd.R_reads' HO_3.out).1;omega) | simpa using h_);obtain rfl:=k82_openM hM12;have HP12:=Kd.R_seg HX12.out (x4_1 : Int) (oT_ (by first | (with_reducible assumption) | assumption)) (by have h_ : (x4_1 : Int) < ((x3_1.length : Int) : Int):=oT_ (by first | (with_reducible assumption) | assumption);first | exact h_ | (have e_:=(Kd.R_reads' HO_3.out).1;omega) | simpa using h_) (seg:=[.string t121,.int .i64 t122,.bool t123]) (j:=0) hcl12 hcc12 (show 3 ≤ 3 from by decide) (x':=(⟨t121,t122,t123⟩ : S82)) (k82_mkM _ _ _ (⟨t121,t122,t123⟩ : S82) ) (fun _ hk=>hk);have hx12_0:=hcc12 0 _ rfl;(try simp only [show (k82).sz = 3 from rfl,Nat.mul_one,Nat.add_zero] at hx12_0);have hf12_0:=hfr12 0;(try simp only [show (k82).sz = 3 from rfl,Nat.mul_one,Nat.add_zero] at hf12_0);have hx12_1:=hcc12 1 _ rfl;(try simp only [show (k82).sz = 3 from rfl,Nat.mul_one,Nat.add_zero] at hx12_1);have hf12_1:=hfr12 1;(try simp only [show (k82).sz = 3 from rfl,Nat.mul_one,Nat.add_zero] at hf12_1);have hx12_2:=hcc12 2 _ rfl;(try simp only [show (k82).sz = 3 from rfl,Nat.mul_one,Nat.add_zero] at hx12_2);have hf12_2:=hfr12 2;(try simp only [show (k82).sz = 3 from rfl,Nat.mul_one,Nat.add_zero] at hf12_2);clear hM12 hcl12 hcc12 hfr12) | ((with_reducible refine gate_store (t:=82) (p:=21) rfl ?_);refine store_event (t:=82) (p:=21) (v:=?vo_w13) (w1:=(((w11.setCell ⟨go10,(x4_1 : Int).toNat * 3,none⟩ (.string t121)).setCell ⟨go10,(x4_1 : Int).toNat * 3 + 1,none⟩ (.int .i64 t122)).setCell ⟨go10,(x4_1 : Int).toNat * 3 + 2,none⟩ (.bool t123))) ?hg ?ho ?hn ?hr ?_;(case ho=>rfl);(case hg=>rfl);(case hn=>rfl);(case hr=>first | (go_simp;done) | (go_simp;rfl));intro w13 hw;have hg : w11.grownBy w13 (some go10):=(by rw [hw];exact HP12.2);have hp_ : Kd.R k82 82 w13 w.heap.size (fun _=>True) (.slice (some ⟨go10,0,none⟩) x3_1.length co10) y124:=(by rw [hw,Ny124.out];exact HP12.1);clear HP12;have n0_:=aM_ (hp_);have n1_:=aM_ ((by rw [hw];exact bE_ (bE_ (bE_ (HB.out) GB10.out) GB10.out) GB10.out : Below w.heap.size w w13));clear HO_3 HB;have HO_3:=n0_;have HB:=n1_;clear n0_ n1_ hg hw hp_))
        go_roundg k1
        case measure=>have:=HK1.out;omega
        case rel=>exact ⟨(y124),(wrap64 (x4_1 + 1)),(by first | rfl | (simp;done) | (simp [*];done)),H', ⟨by have:=HK1.out;omega⟩,⟨by exact rZ_ HO_3⟩,⟨by exact bZ_ HB⟩⟩
       ·rw [if_neg c9] at H
        exact absurd H (by simp)
      ·rw [if_neg c7] at H
       exact absurd H (by simp)
     ·rw [if_neg c6] at H
      have c6b0 : decide (x4_1 < (l0.length : Int)) = false:=decide_eq_false c6
      clear c6
      obtain rfl:=Option.some.inj H
      go_wp2
      go_ret
      exact ⟨_,by first | rfl | (simp [errW_none,errW_some] <;> rfl) | (simp [*, errW_none,errW_some] <;> rfl),by exact rZ_ HO_3,by exact bZ_ HB⟩
  ·rw [if_neg c3] at H
   exact absurd H (by simp)
 ·rw [if_neg c2] at H
  exact absurd H (by simp)
def laws_toBy.f (a0_0 : Int) (a0_1 : Bool) : Option (Int × Bool):=some (a0_0,a0_1)
set_option maxHeartbeats 8000000 in
set_option maxRecDepth 100000 in
theorem laws_toBy.calls (a0_0 : Int) (a0_1 : Bool) (r1 : Int) (r2 : Bool) (w : World) (h : laws_toBy.f a0_0 a0_1 = some (r1,r2)) :
  Calls Tryd.prog 115 #[.agg #[.int .i64 a0_0,.bool a0_1]] w fun e w'=>e = .returned (.agg #[.int .i64 r1,.bool r2]) ∧ Below w.heap.size w w':=by
 have hu137:=Tryd.underlying137
 have hu85:=Tryd.underlying85
 have HB:=aM_ (Below.refl w.heap.size w)
 have H : (some (a0_0,a0_1)) = some (r1,r2):=h
 clear h
 simp only [Option.some.injEq,Prod.mk.injEq] at H
 obtain ⟨rfl,rfl⟩:=H
 go_enter Tryd.func115,Tryd.ntmps115
 go_wp2_with (first | ((with_reducible refine gate_dst (N:=1) rfl ?_);refine box_event ?hg (N:=1) ?hd (cs:=#[.int .i64 a0_0,.bool a0_1]) (t:=137) ?hr ?_;(case hd=>rfl);(case hg=>rfl);(case hr=>first | (go_simp;done) | (go_simp;rfl));intro gb125 hg w2 hbox hb;have n0_:=aM_ (bT_ (by exact bZ_ HB) hb);have n1_:=aM_ (hbox);have n2_:=aM_ ((by rw [hg];exact (bS_ (by exact bZ_ HB)) : w.heap.size ≤ gb125));have n3_:=aM_ ((by rw [hg];exact (bS_ (by exact bZ_ HB)) : w.heap.size ≤ gb125));clear HB;have HB:=n0_;have BK125:=n1_;have GW125:=n2_;have GE125:=n3_;clear n0_ n1_ n2_ n3_ hb hbox hg) | ((with_reducible refine gate_dst (N:=2) rfl ?_);refine box_event ?hg (N:=2) ?hd (cs:=#[.int .i64 0,.bool false]) (t:=85) ?hr ?_;(case hd=>rfl);(case hg=>rfl);(case hr=>first | (go_simp;done) | (go_simp;rfl));intro gb126 hg w3 hbox hb;have n0_:=aM_ (blk_below (g:=gb125) (o:=.cells #[.int .i64 a0_0,.bool a0_1] 137 (0,0)) (by exact kZ_ BK125) hb);have n1_:=aM_ (bT_ (by exact bZ_ HB) hb);have n2_:=aM_ (hbox);have n3_:=aM_ ((by rw [hg];exact (bS_ (by exact bZ_ HB)) : w.heap.size ≤ gb126));have n4_:=aM_ ((by rw [hg];exact (bS_ (by exact bZ_ HB)) : w.heap.size ≤ gb126));have n5_:=aM_ ((by rw [hg];exact nN_ (blk_lt (g:=gb125) (o:=.cells #[.int .i64 a0_0,.bool a0_1] 137 (0,0)) (by exact kZ_ BK125)) : gb125 ≠ gb126));have n6_:=aM_ ((by rw [hg];exact Nat.ne_of_gt (blk_lt (g:=gb125) (o:=.cells #[.int .i64 a0_0,.bool a0_1] 137 (0,0)) (by exact kZ_ BK125)) : gb126 ≠ gb125));clear BK125 HB;have BK125:=n0_;have HB:=n1_;have BK126:=n2_;have GW126:=n3_;have GE126:=n4_;have NB125_126:=n5_;have NB126_125:=n6_;clear n0_ n1_ n2_ n3_ n4_ n5_ n6_ hb hbox hg) | ((with_reducible refine gate_dst (N:=3) rfl ?_);refine box_event ?hg (N:=3) ?hd (cs:=#[.int .i64 0,.bool false]) (t:=85) ?hr ?_;(case hd=>rfl);(case hg=>rfl);(case hr=>first | (go_simp;done) | (go_simp;rfl));intro gb127 hg w4 hbox hb;have n0_:=aM_ (blk_below (g:=gb125) (o:=.cells #[.int .i64 a0_0,.bool a0_1] 137 (0,0)) (by exact kZ_ BK125) hb);have n1_:=aM_ (blk_below (g:=gb126) (o:=.cells #[.int .i64 0,.bool false] 85 (0,0)) (by exact kZ_ BK126) hb);have n2_:=aM_ (bT_ (by exact bZ_ HB) hb);have n3_:=aM_ (hbox);have n4_:=aM_ ((by rw [hg];exact (bS_ (by exact bZ_ HB)) : w.heap.size ≤ gb127));have n5_:=aM_ ((by rw [hg];exact (bS_ (by exact bZ_ HB)) : w.heap.size ≤ gb127));have n6_:=aM_ ((by rw [hg];exact nN_ (blk_lt (g:=gb125) (o:=.cells #[.int .i64 a0_0,.bool a0_1] 137 (0,0)) (by exact kZ_ BK125)) : gb125 ≠ gb127));have n7_:=aM_ ((by rw [hg];exact Nat.ne_of_gt (blk_lt (g:=gb125) (o:=.cells #[.int .i64 a0_0,.bool a0_1] 137 (0,0)) (by exact kZ_ BK125)) : gb127 ≠ gb125));have n8_:=aM_ ((by rw [hg];exact nN_ (blk_lt (g:=gb126) (o:=.cells #[.int .i64 0,.bool false] 85 (0,0)) (by exact kZ_ BK126)) : gb126 ≠ gb127));have n9_:=aM_ ((by rw [hg];exact Nat.ne_of_gt (blk_lt (g:=gb126) (o:=.cells #[.int .i64 0,.bool false] 85 (0,0)) (by exact kZ_ BK126)) : gb127 ≠ gb126));clear BK125 BK126 HB;have BK125:=n0_;have BK126:=n1_;have HB:=n2_;have BK127:=n3_;have GW127:=n4_;have GE127:=n5_;have NB125_127:=n6_;have NB127_125:=n7_;have NB126_127:=n8_;have NB127_126:=n9_;clear n0_ n1_ n2_ n3_ n4_ n5_ n6_ n7_ n8_ n9_ hb hbox hg;have hnb5:=NB125_126.out;have hnc5:=NB126_125.out;have hnb6:=NB125_127.out;have hnc6:=NB127_125.out;have hcz7_0 : w4.cell? ⟨gb125,0,none⟩ = some (.int .i64 a0_0):=(kC_ BK125.out 0).trans rfl;have hcz7_1 : w4.cell? ⟨gb125,1,none⟩ = some (.bool a0_1):=(kC_ BK125.out 1).trans rfl;have hfz7_0:=kF_ BK125.out 0;have hfz7_1:=kF_ BK125.out 1;have hnb8:=NB127_126.out;have hnc8:=NB126_127.out;have hcz9_0 : w4.cell? ⟨gb127,0,none⟩ = some (.int .i64 0):=(kC_ BK127.out 0).trans rfl;have hcz9_1 : w4.cell? ⟨gb127,1,none⟩ = some (.bool false):=(kC_ BK127.out 1).trans rfl;have hfz9_0:=kF_ BK127.out 0;have hfz9_1:=kF_ BK127.out 1;have hcz10_0 : w4.cell? ⟨gb126,0,none⟩ = some (.int .i64 0):=(kC_ BK126.out 0).trans rfl;have hcz10_1 : w4.cell? ⟨gb126,1,none⟩ = some (.bool false):=(kC_ BK126.out 1).trans rfl;have hfz10_0:=kF_ BK126.out 0;have hfz10_1:=kF_ BK126.out 1))
 refine bodyPost_ret (results_cell_row rfl _ _ gb126 85 #[.int .i64 a0_0,.bool a0_1] (0,0) _ rfl (by (with_reducible repeat (first | refine kN_ ?_ _ | refine kD_ ?_ | refine kA_ ?_ _));refine kP_ (cs:=#[.int .i64 a0_0,.bool false]) ?_ 1 _ rfl;(with_reducible repeat (first | refine kN_ ?_ _ | refine kD_ ?_ | refine kA_ ?_ _));refine kP_ (cs:=#[.int .i64 0,.bool false]) ?_ 0 _ rfl;exact kW_ BK126) Tryd.underlying85 rfl (by kernel_rfl)) rfl ?_
 exact ⟨by first | rfl | (simp [errW_none,errW_some] <;> rfl) | (simp [*, errW_none,errW_some] <;> rfl),by exact bZ_ HB⟩
end Go.Proofs.YtipehkeabnfngaaDoor.PFnExactDefsText
