import Derived.Test.YtllgmgpfdnofmaaZSDPFnExactSameDefx0
import Derived.Test.YtllgmgpfdnofmaaZSDPFnExactSameDefx2
namespace Go.Proofs.Ytllgmgpfdnofmaa.PFnExactSameDef
open Go.RowKit Go.Proofs.YtllgmgpfdnofmaaW.PrintWords Go.Proofs.YtllgmgpfdnofmaaW.PrintLast Go.Proofs.YtllgmgpfdnofmaaW.PrintMore Go.Proofs.Ytllgmgpfdnofmaa.Xtra
attribute [local go_sem] max2_int min2_int max_two min_two max_three min_three max_four min_four str_leq str_gtr str_geq setCell_drewN cell_set2 cell_set3   -- for this text's walks alone
set_option linter.unusedVariables false
set_option linter.unusedSimpArgs false
attribute [local go_sem high] eqA184
def laws_szCol.f (a0_0 : ByteArray) (a0_1 : Int) (a0_2 : Bool) (a1 : Int) : Option (Int):=if (wrap64 (a1 - (a0_0.size : Int))) < 0 then (some (-1)) else (some (wrap64 (a1 - (a0_0.size : Int))))
set_option maxHeartbeats 8000000 in
set_option maxRecDepth 100000 in
theorem laws_szCol.calls (a0_0 : ByteArray) (a0_1 : Int) (a0_2 : Bool) (a1 : Int) (r : Int) (w : World) (h : laws_szCol.f a0_0 a0_1 a0_2 a1 = some r) :
  Calls Try.prog 171 #[.agg #[.string a0_0,.int .i64 a0_1,.bool a0_2],.int .i64 a1] w fun e w'=>e = .returned (.int .i64 r) ∧ Below w.heap.size w w':=by
 have hu179:=Try.underlying179
 have HB:=aM_ (Below.refl w.heap.size w)
 have H : (if (wrap64 (a1 - (a0_0.size : Int))) < 0 then (some (-1)) else (some (wrap64 (a1 - (a0_0.size : Int))))) = some r:=h
 clear h
 by_cases c3 : (wrap64 (a1 - (a0_0.size : Int))) < 0
 ·rw [if_pos c3] at H
  have c3b0 : decide ((wrap64 (a1 - (a0_0.size : Int))) < 0) = true:=decide_eq_true c3
  clear c3
  obtain rfl:=Option.some.inj H
  go_enter Try.func171,Try.ntmps171
  go_wp2_with (first | ((with_reducible refine gate_dst (N:=2) rfl ?_);refine box_event ?hg (N:=2) ?hd (cs:=#[.string a0_0,.int .i64 a0_1,.bool a0_2]) (t:=179) ?hr ?_;(case hd=>rfl);(case hg=>rfl);(case hr=>first | (go_simp;done) | (go_simp;rfl));intro gb101 hg w4 hbox hb;have n0_:=aM_ (bT_ (by exact bZ_ HB) hb);have n1_:=aM_ (hbox);have n2_:=aM_ ((by rw [hg];exact (bS_ (by exact bZ_ HB)) : w.heap.size ≤ gb101));have n3_:=aM_ ((by rw [hg];exact (bS_ (by exact bZ_ HB)) : w.heap.size ≤ gb101));clear HB;have HB:=n0_;have BK101:=n1_;have GW101:=n2_;have GE101:=n3_;clear n0_ n1_ n2_ n3_ hb hbox hg;have hcz5_0 : w4.cell? ⟨gb101,0,none⟩ = some (.string a0_0):=(kC_ BK101.out 0).trans rfl;have hcz5_1 : w4.cell? ⟨gb101,1,none⟩ = some (.int .i64 a0_1):=(kC_ BK101.out 1).trans rfl;have hcz5_2 : w4.cell? ⟨gb101,2,none⟩ = some (.bool a0_2):=(kC_ BK101.out 2).trans rfl;have hfz5_0:=kF_ BK101.out 0;have hfz5_1:=kF_ BK101.out 1;have hfz5_2:=kF_ BK101.out 2))
  go_ret
  exact ⟨by first | rfl | (simp [errW_none,errW_some] <;> rfl) | (simp [*, errW_none,errW_some] <;> rfl),by exact bZ_ HB⟩
 ·rw [if_neg c3] at H
  have c3b0 : decide ((wrap64 (a1 - (a0_0.size : Int))) < 0) = false:=decide_eq_false c3
  clear c3
  obtain rfl:=Option.some.inj H
  go_enter Try.func171,Try.ntmps171
  go_wp2_with (first | ((with_reducible refine gate_dst (N:=2) rfl ?_);refine box_event ?hg (N:=2) ?hd (cs:=#[.string a0_0,.int .i64 a0_1,.bool a0_2]) (t:=179) ?hr ?_;(case hd=>rfl);(case hg=>rfl);(case hr=>first | (go_simp;done) | (go_simp;rfl));intro gb101 hg w6 hbox hb;have n0_:=aM_ (bT_ (by exact bZ_ HB) hb);have n1_:=aM_ (hbox);have n2_:=aM_ ((by rw [hg];exact (bS_ (by exact bZ_ HB)) : w.heap.size ≤ gb101));have n3_:=aM_ ((by rw [hg];exact (bS_ (by exact bZ_ HB)) : w.heap.size ≤ gb101));clear HB;have HB:=n0_;have BK101:=n1_;have GW101:=n2_;have GE101:=n3_;clear n0_ n1_ n2_ n3_ hb hbox hg;have hcz7_0 : w6.cell? ⟨gb101,0,none⟩ = some (.string a0_0):=(kC_ BK101.out 0).trans rfl;have hcz7_1 : w6.cell? ⟨gb101,1,none⟩ = some (.int .i64 a0_1):=(kC_ BK101.out 1).trans rfl;have hcz7_2 : w6.cell? ⟨gb101,2,none⟩ = some (.bool a0_2):=(kC_ BK101.out 2).trans rfl;have hfz7_0:=kF_ BK101.out 0;have hfz7_1:=kF_ BK101.out 1;have hfz7_2:=kF_ BK101.out 2))
  go_ret
  exact ⟨by first | rfl | (simp [errW_none,errW_some] <;> rfl) | (simp [*, errW_none,errW_some] <;> rfl),by exact bZ_ HB⟩
def laws_szColS.l0 : Nat → List (S179) → Int → Int → Option (Int)
 | 0,_,_,_=>none
 | k + 1,x0,x1,x5=>if x5 < (x0.length : Int) then (if 0 ≤ x5 then ((laws_szCol.f ((rd_T179 x0 x5).f0) ((rd_T179 x0 x5).f1) ((rd_T179 x0 x5).f2) x1).bind fun t103=>(if t103 < 0 then (some (-1)) else (laws_szColS.l0 k x0 t103 (wrap64 (x5 + 1))))) else (none)) else (some x1)
def laws_szColS.f (k : Nat) (l0 : List (S179)) (a1 : Int) : Option (Int):=if (wrap64 (a1 - (l0.length : Int))) < 0 then (some (-1)) else (laws_szColS.l0 k l0 (wrap64 (a1 - (l0.length : Int))) 0)
theorem laws_szColS.mono_l : ∀ k,(∀ y0 y1 y2,LeO (laws_szColS.l0 k y0 y1 y2) (laws_szColS.l0 (k + 1) y0 y1 y2))
 | 0=>fun _ _ _ r h=>by simp [laws_szColS.l0] at h
 | k + 1=>by
  have ih0:=laws_szColS.mono_l k
  ·intro y0 y1 y2
   unfold laws_szColS.l0
   repeat' first
   | (with_reducible exact ih0 _ _ _)
   | (with_reducible exact LeO.refl _)
   | (with_reducible exact LeO.none _)
   | (with_reducible refine LeO.ite ?_ ?_)
   | (with_reducible refine LeO.bind ?_ (fun _=>?_))
   | exact ih0 _ _ _
   | exact LeO.none _
   | refine LeO.ite ?_ ?_
   | refine LeO.bind ?_ (fun _=>?_)
theorem laws_szColS.mono : ∀ a0 a1 k,LeO (laws_szColS.f k a0 a1) (laws_szColS.f (k + 1) a0 a1):=by
 intro a0 a1 k
 have ih0:=laws_szColS.mono_l k
 unfold laws_szColS.f
 repeat' first
   | (with_reducible exact ih0 _ _ _)
   | (with_reducible exact LeO.refl _)
   | (with_reducible exact LeO.none _)
   | (with_reducible refine LeO.ite ?_ ?_)
   | (with_reducible refine LeO.bind ?_ (fun _=>?_))
   | exact ih0 _ _ _
   | exact LeO.none _
   | refine LeO.ite ?_ ?_
   | refine LeO.bind ?_ (fun _=>?_)
set_option maxHeartbeats 8000000 in
set_option maxRecDepth 100000 in
theorem laws_szColS.calls (k : Nat) (A0 : Option Addr) (c0 : Nat) (l0 : List (S179)) (a1 : Int) (r : Int) (w : World) (hr0 : Kd.C k179 w A0 l0.length l0) (hc0 : l0.length ≤ c0) (h : laws_szColS.f k l0 a1 = some r) :
  Calls Try.prog 133 #[.slice A0 l0.length c0,.int .i64 a1] w fun e w'=>e = .returned (.int .i64 r) ∧ Below w.heap.size w w':=by
 have hu179:=Try.underlying179
 have HR0:=aM_ hr0
 have HC0:=aM_ hc0
 clear hr0 hc0
 have HB:=aM_ (Below.refl w.heap.size w)
 have H : (if (wrap64 (a1 - (l0.length : Int))) < 0 then (some (-1)) else (laws_szColS.l0 k l0 (wrap64 (a1 - (l0.length : Int))) 0)) = some r:=h
 clear h
 by_cases c3 : (wrap64 (a1 - (l0.length : Int))) < 0
 ·rw [if_pos c3] at H
  have c3b0 : decide ((wrap64 (a1 - (l0.length : Int))) < 0) = true:=decide_eq_true c3
  clear c3
  obtain rfl:=Option.some.inj H
  go_enter Try.func133,Try.ntmps133
  go_wp2
  go_ret
  exact ⟨by first | rfl | (simp [errW_none,errW_some] <;> rfl) | (simp [*, errW_none,errW_some] <;> rfl),by exact bZ_ HB⟩
 ·rw [if_neg c3] at H
  have c3b0 : decide ((wrap64 (a1 - (l0.length : Int))) < 0) = false:=decide_eq_false c3
  clear c3
  have H':=aM_ H
  clear H
  go_enter Try.func133,Try.ntmps133
  go_wp2
  (try simp only [Act.put,sI_,sS_,sZ_])
  go_loopg [1,5] k (fun kq v1 v5 w'=>∃ (x1_1 : Int) (x5_1 : Int),v1 = .int .i64 x1_1 ∧ v5 = .int .i64 x5_1 ∧ Aside0 (laws_szColS.l0 kq l0 x1_1 x5_1 = some r) ∧ Aside0 (kq ≤ k) ∧ Aside0 (Below w.heap.size w w'))
  case atStart=>exact ⟨(wrap64 (a1 - (l0.length : Int))),(0),(by first | rfl | (simp;done) | (simp [*];done)),(by first | rfl | (simp;done) | (simp [*];done)),H', ⟨Nat.le_refl _⟩,⟨by exact bZ_ HB⟩⟩
  case round =>
   clear H'
   clear c3b0
   obtain ⟨x1_1,x5_1,rfl,rfl,HA,HK1,HB⟩:=hrel
   cases gk with
   | zero=>exact absurd HA.out (by simp [laws_szColS.l0])
   | succ k1 =>
    have H:=HA.out
    clear HA
    simp only [laws_szColS.l0] at H
    by_cases c4 : x5_1 < (l0.length : Int)
    ·rw [if_pos c4] at H
     have c4b0 : decide (x5_1 < (l0.length : Int)) = true:=decide_eq_true c4
     clear c4
     by_cases c5 : 0 ≤ x5_1
     ·rw [if_pos c5] at H
      have c5b0 : decide (0 ≤ x5_1) = true:=decide_eq_true c5
      clear c5
      replace H:=oB_ H
      obtain ⟨t103,A60,H⟩:=H
      replace H : (if t103 < 0 then (some (-1)) else (laws_szColS.l0 k1 l0 t103 (wrap64 (x5_1 + 1)))) = some r:=H
      have A6:=aM_ A60
      clear A60
      by_cases c7 : t103 < 0
      ·rw [if_pos c7] at H
       have c7b0 : decide (t103 < 0) = true:=decide_eq_true c7
       clear c7
       obtain rfl:=Option.some.inj H
       have p102 : 0 ≤ (x5_1 : Int):=oT_ (by first | (with_reducible assumption) | assumption)
       have q102 : x5_1 < (l0.length : Int):=oT_ (by first | (with_reducible assumption) | assumption)
       obtain ⟨ad102,e102,hx102_0,hx102_1,hx102_2⟩:=at_T179 HR0.out x5_1 p102 q102
       cases e102
       replace hx102_0:=(HB.out.cell (wL_ w _ hx102_0)).trans hx102_0
       replace hx102_1:=(HB.out.cell (wL_ w _ hx102_1)).trans hx102_1
       replace hx102_2:=(HB.out.cell (wL_ w _ hx102_2)).trans hx102_2
       replace p102:=eq_true p102
       replace q102:=eq_true q102
       go_wp2_with (first | ((with_reducible refine gate_callee (f:=171) rfl ?_);refine goesL_ (some 23) rfl rfl Try.func171 (by kernel_rfl) rfl #[.agg #[.string ((rd_T179 l0 x5_1).f0),.int .i64 ((rd_T179 l0 x5_1).f1),.bool ((rd_T179 l0 x5_1).f2)],.int .i64 x1_1] rfl (by (try simp only [mA_,mC_,mN_]);first | done | rfl | (simp only [lD_,lT_];rfl)) ?_;(with_reducible refine (laws_szCol.calls ((rd_T179 l0 x5_1).f0) ((rd_T179 l0 x5_1).f1) ((rd_T179 l0 x5_1).f2) x1_1 t103 _ A6.out).mono ?_);rintro e w8 ⟨rfl,hb⟩;refine ⟨_,rfl,?_⟩;have n0_:=aM_ (bT_ (by exact bZ_ HB) hb);clear HB;have HB:=n0_;clear n0_ hb))
       go_ret
       exact ⟨by first | rfl | (simp [errW_none,errW_some] <;> rfl) | (simp [*, errW_none,errW_some] <;> rfl),by exact bZ_ HB⟩
      ·rw [if_neg c7] at H
       have c7b0 : decide (t103 < 0) = false:=decide_eq_false c7
       clear c7
       have H':=aM_ H
       clear H
       have p102 : 0 ≤ (x5_1 : Int):=oT_ (by first | (with_reducible assumption) | assumption)
       have q102 : x5_1 < (l0.length : Int):=oT_ (by first | (with_reducible assumption) | assumption)
       obtain ⟨ad102,e102,hx102_0,hx102_1,hx102_2⟩:=at_T179 HR0.out x5_1 p102 q102
       cases e102
       replace hx102_0:=(HB.out.cell (wL_ w _ hx102_0)).trans hx102_0
       replace hx102_1:=(HB.out.cell (wL_ w _ hx102_1)).trans hx102_1
       replace hx102_2:=(HB.out.cell (wL_ w _ hx102_2)).trans hx102_2
       replace p102:=eq_true p102
       replace q102:=eq_true q102
       go_wp2_with (first | ((with_reducible refine gate_callee (f:=171) rfl ?_);refine goesL_ (some 23) rfl rfl Try.func171 (by kernel_rfl) rfl #[.agg #[.string ((rd_T179 l0 x5_1).f0),.int .i64 ((rd_T179 l0 x5_1).f1),.bool ((rd_T179 l0 x5_1).f2)],.int .i64 x1_1] rfl (by (try simp only [mA_,mC_,mN_]);first | done | rfl | (simp only [lD_,lT_];rfl)) ?_;(with_reducible refine (laws_szCol.calls ((rd_T179 l0 x5_1).f0) ((rd_T179 l0 x5_1).f1) ((rd_T179 l0 x5_1).f2) x1_1 t103 _ A6.out).mono ?_);rintro e w9 ⟨rfl,hb⟩;refine ⟨_,rfl,?_⟩;have n0_:=aM_ (bT_ (by exact bZ_ HB) hb);clear HB;have HB:=n0_;clear n0_ hb))
       go_roundg k1
       case measure=>have:=HK1.out;omega
       case rel=>exact ⟨(t103),(wrap64 (x5_1 + 1)),(by first | rfl | (simp;done) | (simp [*];done)),(by first | rfl | (simp;done) | (simp [*];done)),H', ⟨by have:=HK1.out;omega⟩,⟨by exact bZ_ HB⟩⟩
     ·rw [if_neg c5] at H
      exact absurd H (by simp)
    ·rw [if_neg c4] at H
     have c4b0 : decide (x5_1 < (l0.length : Int)) = false:=decide_eq_false c4
     clear c4
     obtain rfl:=Option.some.inj H
     go_wp2
     go_ret
     exact ⟨by first | rfl | (simp [errW_none,errW_some] <;> rfl) | (simp [*, errW_none,errW_some] <;> rfl),by exact bZ_ HB⟩
def laws_szByS.f (l0 : List (S187)) (a1 : Int) : Option (Int):=if (wrap64 (a1 - (l0.length : Int))) < 0 then (some (-1)) else (some (wrap64 (a1 - (l0.length : Int))))
set_option maxHeartbeats 8000000 in
set_option maxRecDepth 100000 in
theorem laws_szByS.calls (A0 : Option Addr) (c0 : Nat) (l0 : List (S187)) (a1 : Int) (r : Int) (w : World) (hr0 : Kd.C k187 w A0 l0.length l0) (hc0 : l0.length ≤ c0) (h : laws_szByS.f l0 a1 = some r) :
  Calls Try.prog 134 #[.slice A0 l0.length c0,.int .i64 a1] w fun e w'=>e = .returned (.int .i64 r) ∧ Drawn0 w w':=by
 have HR0:=aM_ hr0
 have HC0:=aM_ hc0
 clear hr0 hc0
 have H : (if (wrap64 (a1 - (l0.length : Int))) < 0 then (some (-1)) else (some (wrap64 (a1 - (l0.length : Int))))) = some r:=h
 clear h
 by_cases c3 : (wrap64 (a1 - (l0.length : Int))) < 0
 ·rw [if_pos c3] at H
  have c3b0 : decide ((wrap64 (a1 - (l0.length : Int))) < 0) = true:=decide_eq_true c3
  clear c3
  obtain rfl:=Option.some.inj H
  go_enter Try.func134,Try.ntmps134
  go_wp2
  go_ret
  exact ⟨by first | rfl | (simp;done) | (simp [*];done),by repeat (first | exact Drawn0.refl _ | apply Drawn0.step)⟩
 ·rw [if_neg c3] at H
  have c3b0 : decide ((wrap64 (a1 - (l0.length : Int))) < 0) = false:=decide_eq_false c3
  clear c3
  obtain rfl:=Option.some.inj H
  go_enter Try.func134,Try.ntmps134
  go_wp2
  go_ret
  exact ⟨by first | rfl | (simp;done) | (simp [*];done),by repeat (first | exact Drawn0.refl _ | apply Drawn0.step)⟩
def laws_szIndex.f (a0_0 : ByteArray) (a0_1 : Bool) (l0_2 : List (S187)) (a1 : Int) : Option (Int):=if (wrap64 (a1 - (a0_0.size : Int))) < 0 then (some (-1)) else ((laws_szByS.f l0_2 (wrap64 (a1 - (a0_0.size : Int)))).bind fun t105=>(if t105 < 0 then (some (-1)) else (some t105)))
set_option maxHeartbeats 8000000 in
set_option maxRecDepth 100000 in
theorem laws_szIndex.calls (a0_0 : ByteArray) (a0_1 : Bool) (A0_2 : Option Addr) (c0_2 : Nat) (l0_2 : List (S187)) (a1 : Int) (r : Int) (w : World) (hr0_2 : Kd.C k187 w A0_2 l0_2.length l0_2) (hc0_2 : l0_2.length ≤ c0_2) (h : laws_szIndex.f a0_0 a0_1 l0_2 a1 = some r) :
  Calls Try.prog 172 #[.agg #[.string a0_0,.bool a0_1,.slice A0_2 l0_2.length c0_2],.int .i64 a1] w fun e w'=>e = .returned (.int .i64 r) ∧ Below w.heap.size w w':=by
 have hu182:=Try.underlying182
 have HR0_2:=aM_ hr0_2
 have HC0_2:=aM_ hc0_2
 clear hr0_2 hc0_2
 have HB:=aM_ (Below.refl w.heap.size w)
 have H : (if (wrap64 (a1 - (a0_0.size : Int))) < 0 then (some (-1)) else ((laws_szByS.f l0_2 (wrap64 (a1 - (a0_0.size : Int)))).bind fun t105=>(if t105 < 0 then (some (-1)) else (some t105)))) = some r:=h
 clear h
 by_cases c3 : (wrap64 (a1 - (a0_0.size : Int))) < 0
 ·rw [if_pos c3] at H
  have c3b0 : decide ((wrap64 (a1 - (a0_0.size : Int))) < 0) = true:=decide_eq_true c3
  clear c3
  obtain rfl:=Option.some.inj H
  go_enter Try.func172,Try.ntmps172
  go_wp2_with (first | ((with_reducible refine gate_dst (N:=2) rfl ?_);refine box_event ?hg (N:=2) ?hd (cs:=#[.string a0_0,.bool a0_1,.slice A0_2 l0_2.length c0_2]) (t:=182) ?hr ?_;(case hd=>rfl);(case hg=>rfl);(case hr=>first | (go_simp;done) | (go_simp;rfl));intro gb104 hg w4 hbox hb;have n0_:=aM_ (bT_ (by exact bZ_ HB) hb);have n1_:=aM_ (hbox);have n2_:=aM_ ((by rw [hg];exact (bS_ (by exact bZ_ HB)) : w.heap.size ≤ gb104));have n3_:=aM_ ((by rw [hg];exact (bS_ (by exact bZ_ HB)) : w.heap.size ≤ gb104));clear HB;have HB:=n0_;have BK104:=n1_;have GW104:=n2_;have GE104:=n3_;clear n0_ n1_ n2_ n3_ hb hbox hg;have hcz5_0 : w4.cell? ⟨gb104,0,none⟩ = some (.string a0_0):=(kC_ BK104.out 0).trans rfl;have hcz5_1 : w4.cell? ⟨gb104,1,none⟩ = some (.bool a0_1):=(kC_ BK104.out 1).trans rfl;have hcz5_2 : w4.cell? ⟨gb104,2,none⟩ = some (.slice A0_2 l0_2.length c0_2):=(kC_ BK104.out 2).trans rfl;have hfz5_0:=kF_ BK104.out 0;have hfz5_1:=kF_ BK104.out 1;have hfz5_2:=kF_ BK104.out 2))
  go_ret
  exact ⟨by first | rfl | (simp [errW_none,errW_some] <;> rfl) | (simp [*, errW_none,errW_some] <;> rfl),by exact bZ_ HB⟩
 ·rw [if_neg c3] at H
  have c3b0 : decide ((wrap64 (a1 - (a0_0.size : Int))) < 0) = false:=decide_eq_false c3
  clear c3
  replace H:=oB_ H
  obtain ⟨t105,A60,H⟩:=H
  replace H : (if t105 < 0 then (some (-1)) else (some t105)) = some r:=H
  have A6:=aM_ A60
  clear A60
  by_cases c7 : t105 < 0
  ·rw [if_pos c7] at H
   have c7b0 : decide (t105 < 0) = true:=decide_eq_true c7
   clear c7
   obtain rfl:=Option.some.inj H
   go_enter Try.func172,Try.ntmps172
   go_wp2_with (first | ((with_reducible refine gate_dst (N:=2) rfl ?_);refine box_event ?hg (N:=2) ?hd (cs:=#[.string a0_0,.bool a0_1,.slice A0_2 l0_2.length c0_2]) (t:=182) ?hr ?_;(case hd=>rfl);(case hg=>rfl);(case hr=>first | (go_simp;done) | (go_simp;rfl));intro gb104 hg w8 hbox hb;have n0_:=aM_ (bT_ (by exact bZ_ HB) hb);have n1_:=aM_ (hbox);have n2_:=aM_ ((by rw [hg];exact (bS_ (by exact bZ_ HB)) : w.heap.size ≤ gb104));have n3_:=aM_ ((by rw [hg];exact (bS_ (by exact bZ_ HB)) : w.heap.size ≤ gb104));clear HB;have HB:=n0_;have BK104:=n1_;have GW104:=n2_;have GE104:=n3_;clear n0_ n1_ n2_ n3_ hb hbox hg;have hcz9_0 : w8.cell? ⟨gb104,0,none⟩ = some (.string a0_0):=(kC_ BK104.out 0).trans rfl;have hcz9_1 : w8.cell? ⟨gb104,1,none⟩ = some (.bool a0_1):=(kC_ BK104.out 1).trans rfl;have hcz9_2 : w8.cell? ⟨gb104,2,none⟩ = some (.slice A0_2 l0_2.length c0_2):=(kC_ BK104.out 2).trans rfl;have hfz9_0:=kF_ BK104.out 0;have hfz9_1:=kF_ BK104.out 1;have hfz9_2:=kF_ BK104.out 2) | ((with_reducible refine gate_callee (f:=134) rfl ?_);refine goesL_ (some 15) rfl rfl Try.func134 (by kernel_rfl) rfl #[.slice A0_2 l0_2.length c0_2,.int .i64 (wrap64 (a1 - (a0_0.size : Int)))] rfl (by (try simp only [mA_,mC_,mN_]);first | done | rfl | (simp only [lD_,lT_];rfl)) ?_;(with_reducible refine (laws_szByS.calls _ _ l0_2 (wrap64 (a1 - (a0_0.size : Int))) t105 _ ?side1 ?side2 A6.out).mono ?_);(case side1=>repeat (first | exact (Kd.C_below HR0_2.out HB.out) | (with_reducible refine cA_ ?_ _) | (with_reducible refine cN_ ?_ _) | (with_reducible refine cD_ ?_)));(case side2=>exact HC0_2.out);rintro e w' ⟨rfl,⟨nd,rfl⟩⟩;refine ⟨_,rfl,?_⟩))
   go_ret
   exact ⟨by first | rfl | (simp [errW_none,errW_some] <;> rfl) | (simp [*, errW_none,errW_some] <;> rfl),by exact bZ_ HB⟩
  ·rw [if_neg c7] at H
   have c7b0 : decide (t105 < 0) = false:=decide_eq_false c7
   clear c7
   obtain rfl:=Option.some.inj H
   go_enter Try.func172,Try.ntmps172
   go_wp2_with (first | ((with_reducible refine gate_dst (N:=2) rfl ?_);refine box_event ?hg (N:=2) ?hd (cs:=#[.string a0_0,.bool a0_1,.slice A0_2 l0_2.length c0_2]) (t:=182) ?hr ?_;(case hd=>rfl);(case hg=>rfl);(case hr=>first | (go_simp;done) | (go_simp;rfl));intro gb104 hg w10 hbox hb;have n0_:=aM_ (bT_ (by exact bZ_ HB) hb);have n1_:=aM_ (hbox);have n2_:=aM_ ((by rw [hg];exact (bS_ (by exact bZ_ HB)) : w.heap.size ≤ gb104));have n3_:=aM_ ((by rw [hg];exact (bS_ (by exact bZ_ HB)) : w.heap.size ≤ gb104));clear HB;have HB:=n0_;have BK104:=n1_;have GW104:=n2_;have GE104:=n3_;clear n0_ n1_ n2_ n3_ hb hbox hg;have hcz11_0 : w10.cell? ⟨gb104,0,none⟩ = some (.string a0_0):=(kC_ BK104.out 0).trans rfl;have hcz11_1 : w10.cell? ⟨gb104,1,none⟩ = some (.bool a0_1):=(kC_ BK104.out 1).trans rfl;have hcz11_2 : w10.cell? ⟨gb104,2,none⟩ = some (.slice A0_2 l0_2.length c0_2):=(kC_ BK104.out 2).trans rfl;have hfz11_0:=kF_ BK104.out 0;have hfz11_1:=kF_ BK104.out 1;have hfz11_2:=kF_ BK104.out 2) | ((with_reducible refine gate_callee (f:=134) rfl ?_);refine goesL_ (some 15) rfl rfl Try.func134 (by kernel_rfl) rfl #[.slice A0_2 l0_2.length c0_2,.int .i64 (wrap64 (a1 - (a0_0.size : Int)))] rfl (by (try simp only [mA_,mC_,mN_]);first | done | rfl | (simp only [lD_,lT_];rfl)) ?_;(with_reducible refine (laws_szByS.calls _ _ l0_2 (wrap64 (a1 - (a0_0.size : Int))) t105 _ ?side1 ?side2 A6.out).mono ?_);(case side1=>repeat (first | exact (Kd.C_below HR0_2.out HB.out) | (with_reducible refine cA_ ?_ _) | (with_reducible refine cN_ ?_ _) | (with_reducible refine cD_ ?_)));(case side2=>exact HC0_2.out);rintro e w' ⟨rfl,⟨nd,rfl⟩⟩;refine ⟨_,rfl,?_⟩))
   go_ret
   exact ⟨by first | rfl | (simp [errW_none,errW_some] <;> rfl) | (simp [*, errW_none,errW_some] <;> rfl),by exact bZ_ HB⟩
def laws_szIndexS.l0 : Nat → List (S182) → Int → Int → Option (Int)
 | 0,_,_,_=>none
 | k + 1,x0,x1,x5=>if x5 < (x0.length : Int) then (if 0 ≤ x5 then ((laws_szIndex.f ((rd_T182 x0 x5).f0) ((rd_T182 x0 x5).f1) ((rd_T182 x0 x5).f2) x1).bind fun t107=>(if t107 < 0 then (some (-1)) else (laws_szIndexS.l0 k x0 t107 (wrap64 (x5 + 1))))) else (none)) else (some x1)
def laws_szIndexS.f (k : Nat) (l0 : List (S182)) (a1 : Int) : Option (Int):=if (wrap64 (a1 - (l0.length : Int))) < 0 then (some (-1)) else (laws_szIndexS.l0 k l0 (wrap64 (a1 - (l0.length : Int))) 0)
theorem laws_szIndexS.mono_l : ∀ k,(∀ y0 y1 y2,LeO (laws_szIndexS.l0 k y0 y1 y2) (laws_szIndexS.l0 (k + 1) y0 y1 y2))
 | 0=>fun _ _ _ r h=>by simp [laws_szIndexS.l0] at h
 | k + 1=>by
  have ih0:=laws_szIndexS.mono_l k
  ·intro y0 y1 y2
   unfold laws_szIndexS.l0
   repeat' first
   | (with_reducible exact ih0 _ _ _)
   | (with_reducible exact LeO.refl _)
   | (with_reducible exact LeO.none _)
   | (with_reducible refine LeO.ite ?_ ?_)
   | (with_reducible refine LeO.bind ?_ (fun _=>?_))
   | exact ih0 _ _ _
   | exact LeO.none _
   | refine LeO.ite ?_ ?_
   | refine LeO.bind ?_ (fun _=>?_)
theorem laws_szIndexS.mono : ∀ a0 a1 k,LeO (laws_szIndexS.f k a0 a1) (laws_szIndexS.f (k + 1) a0 a1):=by
 intro a0 a1 k
 have ih0:=laws_szIndexS.mono_l k
 unfold laws_szIndexS.f
 repeat' first
   | (with_reducible exact ih0 _ _ _)
   | (with_reducible exact LeO.refl _)
   | (with_reducible exact LeO.none _)
   | (with_reducible refine LeO.ite ?_ ?_)
   | (with_reducible refine LeO.bind ?_ (fun _=>?_))
   | exact ih0 _ _ _
   | exact LeO.none _
   | refine LeO.ite ?_ ?_
   | refine LeO.bind ?_ (fun _=>?_)
set_option maxHeartbeats 8000000 in
set_option maxRecDepth 100000 in
theorem laws_szIndexS.calls (k : Nat) (A0 : Option Addr) (c0 : Nat) (l0 : List (S182)) (a1 : Int) (r : Int) (w : World) (hr0 : Kd.C k182 w A0 l0.length l0) (hc0 : l0.length ≤ c0) (h : laws_szIndexS.f k l0 a1 = some r) :
  Calls Try.prog 135 #[.slice A0 l0.length c0,.int .i64 a1] w fun e w'=>e = .returned (.int .i64 r) ∧ Below w.heap.size w w':=by
 have hu182:=Try.underlying182
 have HR0:=aM_ hr0
 have HC0:=aM_ hc0
 clear hr0 hc0
 have HB:=aM_ (Below.refl w.heap.size w)
 have H : (if (wrap64 (a1 - (l0.length : Int))) < 0 then (some (-1)) else (laws_szIndexS.l0 k l0 (wrap64 (a1 - (l0.length : Int))) 0)) = some r:=h
 clear h
 by_cases c3 : (wrap64 (a1 - (l0.length : Int))) < 0
 ·rw [if_pos c3] at H
  have c3b0 : decide ((wrap64 (a1 - (l0.length : Int))) < 0) = true:=decide_eq_true c3
  clear c3
  obtain rfl:=Option.some.inj H
  go_enter Try.func135,Try.ntmps135
  go_wp2
  go_ret
  exact ⟨by first | rfl | (simp [errW_none,errW_some] <;> rfl) | (simp [*, errW_none,errW_some] <;> rfl),by exact bZ_ HB⟩
 ·rw [if_neg c3] at H
  have c3b0 : decide ((wrap64 (a1 - (l0.length : Int))) < 0) = false:=decide_eq_false c3
  clear c3
  have H':=aM_ H
  clear H
  go_enter Try.func135,Try.ntmps135
  go_wp2
  (try simp only [Act.put,sI_,sS_,sZ_])
  go_loopg [1,5] k (fun kq v1 v5 w'=>∃ (x1_1 : Int) (x5_1 : Int),v1 = .int .i64 x1_1 ∧ v5 = .int .i64 x5_1 ∧ Aside0 (laws_szIndexS.l0 kq l0 x1_1 x5_1 = some r) ∧ Aside0 (kq ≤ k) ∧ Aside0 (Below w.heap.size w w'))
  case atStart=>exact ⟨(wrap64 (a1 - (l0.length : Int))),(0),(by first | rfl | (simp;done) | (simp [*];done)),(by first | rfl | (simp;done) | (simp [*];done)),H', ⟨Nat.le_refl _⟩,⟨by exact bZ_ HB⟩⟩
  case round =>
   clear H'
   clear c3b0
   obtain ⟨x1_1,x5_1,rfl,rfl,HA,HK1,HB⟩:=hrel
   cases gk with
   | zero=>exact absurd HA.out (by simp [laws_szIndexS.l0])
   | succ k1 =>
    have H:=HA.out
    clear HA
    simp only [laws_szIndexS.l0] at H
    by_cases c4 : x5_1 < (l0.length : Int)
    ·rw [if_pos c4] at H
     have c4b0 : decide (x5_1 < (l0.length : Int)) = true:=decide_eq_true c4
     clear c4
     by_cases c5 : 0 ≤ x5_1
     ·rw [if_pos c5] at H
      have c5b0 : decide (0 ≤ x5_1) = true:=decide_eq_true c5
      clear c5
      replace H:=oB_ H
      obtain ⟨t107,A60,H⟩:=H
      replace H : (if t107 < 0 then (some (-1)) else (laws_szIndexS.l0 k1 l0 t107 (wrap64 (x5_1 + 1)))) = some r:=H
      have A6:=aM_ A60
      clear A60
      by_cases c7 : t107 < 0
      ·rw [if_pos c7] at H
       have c7b0 : decide (t107 < 0) = true:=decide_eq_true c7
       clear c7
       obtain rfl:=Option.some.inj H
       have p106 : 0 ≤ (x5_1 : Int):=oT_ (by first | (with_reducible assumption) | assumption)
       have q106 : x5_1 < (l0.length : Int):=oT_ (by first | (with_reducible assumption) | assumption)
       obtain ⟨ad106,A106_2,c106_2,e106,hx106_0,hx106_1,hx106_2,hl106_2,hi106_2⟩:=at_T182 HR0.out x5_1 p106 q106
       cases e106
       replace hx106_0:=(HB.out.cell (wL_ w _ hx106_0)).trans hx106_0
       replace hx106_1:=(HB.out.cell (wL_ w _ hx106_1)).trans hx106_1
       replace hx106_2:=(HB.out.cell (wL_ w _ hx106_2)).trans hx106_2
       have HR106_2:=aM_ hi106_2
       have HC106_2:=aM_ hl106_2
       clear hi106_2 hl106_2
       replace p106:=eq_true p106
       replace q106:=eq_true q106
       go_wp2_with (first | ((with_reducible refine gate_callee (f:=172) rfl ?_);refine goesL_ (some 23) rfl rfl Try.func172 (by kernel_rfl) rfl #[.agg #[.string ((rd_T182 l0 x5_1).f0),.bool ((rd_T182 l0 x5_1).f1),.slice A106_2 ((rd_T182 l0 x5_1).f2).length c106_2],.int .i64 x1_1] rfl (by (try simp only [mA_,mC_,mN_]);first | done | rfl | (simp only [lD_,lT_];rfl)) ?_;(with_reducible refine (laws_szIndex.calls ((rd_T182 l0 x5_1).f0) ((rd_T182 l0 x5_1).f1) _ _ ((rd_T182 l0 x5_1).f2) x1_1 t107 _ ?side1 ?side2 A6.out).mono ?_);(case side1=>repeat (first | exact (Kd.C_below HR106_2.out HB.out) | (with_reducible refine cA_ ?_ _) | (with_reducible refine cN_ ?_ _) | (with_reducible refine cD_ ?_)));(case side2=>exact HC106_2.out);rintro e w8 ⟨rfl,hb⟩;refine ⟨_,rfl,?_⟩;have n0_:=aM_ (bT_ (by exact bZ_ HB) hb);clear HB;have HB:=n0_;clear n0_ hb))
       go_ret
       exact ⟨by first | rfl | (simp [errW_none,errW_some] <;> rfl) | (simp [*, errW_none,errW_some] <;> rfl),by exact bZ_ HB⟩
      ·rw [if_neg c7] at H
       have c7b0 : decide (t107 < 0) = false:=decide_eq_false c7
       clear c7
       have H':=aM_ H
       clear H
       have p106 : 0 ≤ (x5_1 : Int):=oT_ (by first | (with_reducible assumption) | assumption)
       have q106 : x5_1 < (l0.length : Int):=oT_ (by first | (with_reducible assumption) | assumption)
       obtain ⟨ad106,A106_2,c106_2,e106,hx106_0,hx106_1,hx106_2,hl106_2,hi106_2⟩:=at_T182 HR0.out x5_1 p106 q106
       cases e106
       replace hx106_0:=(HB.out.cell (wL_ w _ hx106_0)).trans hx106_0
       replace hx106_1:=(HB.out.cell (wL_ w _ hx106_1)).trans hx106_1
       replace hx106_2:=(HB.out.cell (wL_ w _ hx106_2)).trans hx106_2
       have HR106_2:=aM_ hi106_2
       have HC106_2:=aM_ hl106_2
       clear hi106_2 hl106_2
       replace p106:=eq_true p106
       replace q106:=eq_true q106
       go_wp2_with (first | ((with_reducible refine gate_callee (f:=172) rfl ?_);refine goesL_ (some 23) rfl rfl Try.func172 (by kernel_rfl) rfl #[.agg #[.string ((rd_T182 l0 x5_1).f0),.bool ((rd_T182 l0 x5_1).f1),.slice A106_2 ((rd_T182 l0 x5_1).f2).length c106_2],.int .i64 x1_1] rfl (by (try simp only [mA_,mC_,mN_]);first | done | rfl | (simp only [lD_,lT_];rfl)) ?_;(with_reducible refine (laws_szIndex.calls ((rd_T182 l0 x5_1).f0) ((rd_T182 l0 x5_1).f1) _ _ ((rd_T182 l0 x5_1).f2) x1_1 t107 _ ?side1 ?side2 A6.out).mono ?_);(case side1=>repeat (first | exact (Kd.C_below HR106_2.out HB.out) | (with_reducible refine cA_ ?_ _) | (with_reducible refine cN_ ?_ _) | (with_reducible refine cD_ ?_)));(case side2=>exact HC106_2.out);rintro e w9 ⟨rfl,hb⟩;refine ⟨_,rfl,?_⟩;have n0_:=aM_ (bT_ (by exact bZ_ HB) hb);clear HB;have HB:=n0_;clear n0_ hb))
       go_roundg k1
       case measure=>have:=HK1.out;omega
       case rel=>exact ⟨(t107),(wrap64 (x5_1 + 1)),(by first | rfl | (simp;done) | (simp [*];done)),(by first | rfl | (simp;done) | (simp [*];done)),H', ⟨by have:=HK1.out;omega⟩,⟨by exact bZ_ HB⟩⟩
     ·rw [if_neg c5] at H
      exact absurd H (by simp)
    ·rw [if_neg c4] at H
     have c4b0 : decide (x5_1 < (l0.length : Int)) = false:=decide_eq_false c4
     clear c4
     obtain rfl:=Option.some.inj H
     go_wp2
     go_ret
     exact ⟨by first | rfl | (simp [errW_none,errW_some] <;> rfl) | (simp [*, errW_none,errW_some] <;> rfl),by exact bZ_ HB⟩
def laws_szDef.f (k : Nat) (a0_0 : ByteArray) (l0_1 : List (S179)) (l0_2 : List (S187)) (l0_3 : List (S182)) (a1 : Int) : Option (Int):=if (wrap64 (a1 - (a0_0.size : Int))) < 0 then (some (-1)) else ((laws_szColS.f k l0_1 (wrap64 (a1 - (a0_0.size : Int)))).bind fun t109=>(if t109 < 0 then (some (-1)) else ((laws_szByS.f l0_2 t109).bind fun t110=>(if t110 < 0 then (some (-1)) else ((laws_szIndexS.f k l0_3 t110).bind fun t111=>(if t111 < 0 then (some (-1)) else (some t111)))))))
theorem laws_szDef.mono : ∀ a0 a1 a2 a3 a4 k,LeO (laws_szDef.f k a0 a1 a2 a3 a4) (laws_szDef.f (k + 1) a0 a1 a2 a3 a4):=by
 intro a0 a1 a2 a3 a4 k
 unfold laws_szDef.f
 repeat' first
   | (with_reducible exact laws_szColS.mono _ _ _)
   | (with_reducible exact laws_szIndexS.mono _ _ _)
   | (with_reducible exact LeO.refl _)
   | (with_reducible exact LeO.none _)
   | (with_reducible refine LeO.ite ?_ ?_)
   | (with_reducible refine LeO.bind ?_ (fun _=>?_))
   | exact laws_szColS.mono _ _ _
   | exact laws_szIndexS.mono _ _ _
   | exact LeO.none _
   | refine LeO.ite ?_ ?_
   | refine LeO.bind ?_ (fun _=>?_)
set_option maxHeartbeats 8000000 in
set_option maxRecDepth 100000 in
theorem laws_szDef.calls (k : Nat) (a0_0 : ByteArray) (A0_1 : Option Addr) (c0_1 : Nat) (l0_1 : List (S179)) (A0_2 : Option Addr) (c0_2 : Nat) (l0_2 : List (S187)) (A0_3 : Option Addr) (c0_3 : Nat) (l0_3 : List (S182)) (a1 : Int) (r : Int) (w : World) (hr0_1 : Kd.C k179 w A0_1 l0_1.length l0_1) (hc0_1 : l0_1.length ≤ c0_1) (hr0_2 : Kd.C k187 w A0_2 l0_2.length l0_2) (hc0_2 : l0_2.length ≤ c0_2) (hr0_3 : Kd.C k182 w A0_3 l0_3.length l0_3) (hc0_3 : l0_3.length ≤ c0_3) (h : laws_szDef.f k a0_0 l0_1 l0_2 l0_3 a1 = some r) :
  Calls Try.prog 61 #[.agg #[.string a0_0,.slice A0_1 l0_1.length c0_1,.slice A0_2 l0_2.length c0_2,.slice A0_3 l0_3.length c0_3],.int .i64 a1] w fun e w'=>e = .returned (.int .i64 r) ∧ Below w.heap.size w w':=by
 have hu80:=Try.underlying80
 have HR0_1:=aM_ hr0_1
 have HC0_1:=aM_ hc0_1
 clear hr0_1 hc0_1
 have HR0_2:=aM_ hr0_2
 have HC0_2:=aM_ hc0_2
 clear hr0_2 hc0_2
 have HR0_3:=aM_ hr0_3
 have HC0_3:=aM_ hc0_3
 clear hr0_3 hc0_3
 have HB:=aM_ (Below.refl w.heap.size w)
 have H : (if (wrap64 (a1 - (a0_0.size : Int))) < 0 then (some (-1)) else ((laws_szColS.f k l0_1 (wrap64 (a1 - (a0_0.size : Int)))).bind fun t109=>(if t109 < 0 then (some (-1)) else ((laws_szByS.f l0_2 t109).bind fun t110=>(if t110 < 0 then (some (-1)) else ((laws_szIndexS.f k l0_3 t110).bind fun t111=>(if t111 < 0 then (some (-1)) else (some t111)))))))) = some r:=h
 clear h
 by_cases c3 : (wrap64 (a1 - (a0_0.size : Int))) < 0
 ·rw [if_pos c3] at H
  have c3b0 : decide ((wrap64 (a1 - (a0_0.size : Int))) < 0) = true:=decide_eq_true c3
  clear c3
  obtain rfl:=Option.some.inj H
  go_enter Try.func61,Try.ntmps61
  go_wp2_with (first | ((with_reducible refine gate_dst (N:=2) rfl ?_);refine box_event ?hg (N:=2) ?hd (cs:=#[.string a0_0,.slice A0_1 l0_1.length c0_1,.slice A0_2 l0_2.length c0_2,.slice A0_3 l0_3.length c0_3]) (t:=80) ?hr ?_;(case hd=>rfl);(case hg=>rfl);(case hr=>first | (go_simp;done) | (go_simp;rfl));intro gb108 hg w4 hbox hb;have n0_:=aM_ (bT_ (by exact bZ_ HB) hb);have n1_:=aM_ (hbox);have n2_:=aM_ ((by rw [hg];exact (bS_ (by exact bZ_ HB)) : w.heap.size ≤ gb108));have n3_:=aM_ ((by rw [hg];exact (bS_ (by exact bZ_ HB)) : w.heap.size ≤ gb108));clear HB;have HB:=n0_;have BK108:=n1_;have GW108:=n2_;have GE108:=n3_;clear n0_ n1_ n2_ n3_ hb hbox hg;have hcz5_0 : w4.cell? ⟨gb108,0,none⟩ = some (.string a0_0):=(kC_ BK108.out 0).trans rfl;have hcz5_1 : w4.cell? ⟨gb108,1,none⟩ = some (.slice A0_1 l0_1.length c0_1):=(kC_ BK108.out 1).trans rfl;have hcz5_2 : w4.cell? ⟨gb108,2,none⟩ = some (.slice A0_2 l0_2.length c0_2):=(kC_ BK108.out 2).trans rfl;have hcz5_3 : w4.cell? ⟨gb108,3,none⟩ = some (.slice A0_3 l0_3.length c0_3):=(kC_ BK108.out 3).trans rfl;have hfz5_0:=kF_ BK108.out 0;have hfz5_1:=kF_ BK108.out 1;have hfz5_2:=kF_ BK108.out 2;have hfz5_3:=kF_ BK108.out 3))
  go_ret
  exact ⟨by first | rfl | (simp [errW_none,errW_some] <;> rfl) | (simp [*, errW_none,errW_some] <;> rfl),by exact bZ_ HB⟩
 ·rw [if_neg c3] at H
  have c3b0 : decide ((wrap64 (a1 - (a0_0.size : Int))) < 0) = false:=decide_eq_false c3
  clear c3
  replace H:=oB_ H
  obtain ⟨t109,A60,H⟩:=H
  replace H : (if t109 < 0 then (some (-1)) else ((laws_szByS.f l0_2 t109).bind fun t110=>(if t110 < 0 then (some (-1)) else ((laws_szIndexS.f k l0_3 t110).bind fun t111=>(if t111 < 0 then (some (-1)) else (some t111)))))) = some r:=H
  have A6:=aM_ A60
  clear A60
  by_cases c7 : t109 < 0
  ·rw [if_pos c7] at H
   have c7b0 : decide (t109 < 0) = true:=decide_eq_true c7
   clear c7
   obtain rfl:=Option.some.inj H
   go_enter Try.func61,Try.ntmps61
   go_wp2_with (first | ((with_reducible refine gate_dst (N:=2) rfl ?_);refine box_event ?hg (N:=2) ?hd (cs:=#[.string a0_0,.slice A0_1 l0_1.length c0_1,.slice A0_2 l0_2.length c0_2,.slice A0_3 l0_3.length c0_3]) (t:=80) ?hr ?_;(case hd=>rfl);(case hg=>rfl);(case hr=>first | (go_simp;done) | (go_simp;rfl));intro gb108 hg w8 hbox hb;have n0_:=aM_ (bT_ (by exact bZ_ HB) hb);have n1_:=aM_ (hbox);have n2_:=aM_ ((by rw [hg];exact (bS_ (by exact bZ_ HB)) : w.heap.size ≤ gb108));have n3_:=aM_ ((by rw [hg];exact (bS_ (by exact bZ_ HB)) : w.heap.size ≤ gb108));clear HB;have HB:=n0_;have BK108:=n1_;have GW108:=n2_;have GE108:=n3_;clear n0_ n1_ n2_ n3_ hb hbox hg;have hcz9_0 : w8.cell? ⟨gb108,0,none⟩ = some (.string a0_0):=(kC_ BK108.out 0).trans rfl;have hcz9_1 : w8.cell? ⟨gb108,1,none⟩ = some (.slice A0_1 l0_1.length c0_1):=(kC_ BK108.out 1).trans rfl;have hcz9_2 : w8.cell? ⟨gb108,2,none⟩ = some (.slice A0_2 l0_2.length c0_2):=(kC_ BK108.out 2).trans rfl;have hcz9_3 : w8.cell? ⟨gb108,3,none⟩ = some (.slice A0_3 l0_3.length c0_3):=(kC_ BK108.out 3).trans rfl;have hfz9_0:=kF_ BK108.out 0;have hfz9_1:=kF_ BK108.out 1;have hfz9_2:=kF_ BK108.out 2;have hfz9_3:=kF_ BK108.out 3) | ((with_reducible refine gate_callee (f:=133) rfl ?_);refine goesL_ (some 15) rfl rfl Try.func133 (by kernel_rfl) rfl #[.slice A0_1 l0_1.length c0_1,.int .i64 (wrap64 (a1 - (a0_0.size : Int)))] rfl (by (try simp only [mA_,mC_,mN_]);first | done | rfl | (simp only [lD_,lT_];rfl)) ?_;(with_reducible refine (laws_szColS.calls k _ _ l0_1 (wrap64 (a1 - (a0_0.size : Int))) t109 _ ?side1 ?side2 A6.out).mono ?_);(case side1=>repeat (first | exact (Kd.C_below HR0_1.out HB.out) | (with_reducible refine cA_ ?_ _) | (with_reducible refine cN_ ?_ _) | (with_reducible refine cD_ ?_)));(case side2=>exact HC0_1.out);rintro e w10 ⟨rfl,hb⟩;refine ⟨_,rfl,?_⟩;have n0_:=aM_ (blk_below (g:=gb108) (o:=.cells #[.string a0_0,.slice A0_1 l0_1.length c0_1,.slice A0_2 l0_2.length c0_2,.slice A0_3 l0_3.length c0_3] 80 (0,0)) (by exact kZ_ BK108) hb);have n1_:=aM_ (bT_ (by exact bZ_ HB) hb);clear BK108 HB;have BK108:=n0_;have HB:=n1_;clear n0_ n1_ hb))
   go_ret
   exact ⟨by first | rfl | (simp [errW_none,errW_some] <;> rfl) | (simp [*, errW_none,errW_some] <;> rfl),by exact bZ_ HB⟩
  ·rw [if_neg c7] at H
   have c7b0 : decide (t109 < 0) = false:=decide_eq_false c7
   clear c7
   replace H:=oB_ H
   obtain ⟨t110,A110,H⟩:=H
   replace H : (if t110 < 0 then (some (-1)) else ((laws_szIndexS.f k l0_3 t110).bind fun t111=>(if t111 < 0 then (some (-1)) else (some t111)))) = some r:=H
   have A11:=aM_ A110
   clear A110
   by_cases c12 : t110 < 0
   ·rw [if_pos c12] at H
    have c12b0 : decide (t110 < 0) = true:=decide_eq_true c12
    clear c12
    obtain rfl:=Option.some.inj H
    go_enter Try.func61,Try.ntmps61
    go_wp2_with (first | ((with_reducible refine gate_dst (N:=2) rfl ?_);refine box_event ?hg (N:=2) ?hd (cs:=#[.string a0_0,.slice A0_1 l0_1.length c0_1,.slice A0_2 l0_2.length c0_2,.slice A0_3 l0_3.length c0_3]) (t:=80) ?hr ?_;(case hd=>rfl);(case hg=>rfl);(case hr=>first | (go_simp;done) | (go_simp;rfl));intro gb108 hg w13 hbox hb;have n0_:=aM_ (bT_ (by exact bZ_ HB) hb);have n1_:=aM_ (hbox);have n2_:=aM_ ((by rw [hg];exact (bS_ (by exact bZ_ HB)) : w.heap.size ≤ gb108));have n3_:=aM_ ((by rw [hg];exact (bS_ (by exact bZ_ HB)) : w.heap.size ≤ gb108));clear HB;have HB:=n0_;have BK108:=n1_;have GW108:=n2_;have GE108:=n3_;clear n0_ n1_ n2_ n3_ hb hbox hg;have hcz14_0 : w13.cell? ⟨gb108,0,none⟩ = some (.string a0_0):=(kC_ BK108.out 0).trans rfl;have hcz14_1 : w13.cell? ⟨gb108,1,none⟩ = some (.slice A0_1 l0_1.length c0_1):=(kC_ BK108.out 1).trans rfl;have hcz14_2 : w13.cell? ⟨gb108,2,none⟩ = some (.slice A0_2 l0_2.length c0_2):=(kC_ BK108.out 2).trans rfl;have hcz14_3 : w13.cell? ⟨gb108,3,none⟩ = some (.slice A0_3 l0_3.length c0_3):=(kC_ BK108.out 3).trans rfl;have hfz14_0:=kF_ BK108.out 0;have hfz14_1:=kF_ BK108.out 1;have hfz14_2:=kF_ BK108.out 2;have hfz14_3:=kF_ BK108.out 3) | ((with_reducible refine gate_callee (f:=133) rfl ?_);refine goesL_ (some 15) rfl rfl Try.func133 (by kernel_rfl) rfl #[.slice A0_1 l0_1.length c0_1,.int .i64 (wrap64 (a1 - (a0_0.size : Int)))] rfl (by (try simp only [mA_,mC_,mN_]);first | done | rfl | (simp only [lD_,lT_];rfl)) ?_;(with_reducible refine (laws_szColS.calls k _ _ l0_1 (wrap64 (a1 - (a0_0.size : Int))) t109 _ ?side1 ?side2 A6.out).mono ?_);(case side1=>repeat (first | exact (Kd.C_below HR0_1.out HB.out) | (with_reducible refine cA_ ?_ _) | (with_reducible refine cN_ ?_ _) | (with_reducible refine cD_ ?_)));(case side2=>exact HC0_1.out);rintro e w15 ⟨rfl,hb⟩;refine ⟨_,rfl,?_⟩;have n0_:=aM_ (blk_below (g:=gb108) (o:=.cells #[.string a0_0,.slice A0_1 l0_1.length c0_1,.slice A0_2 l0_2.length c0_2,.slice A0_3 l0_3.length c0_3] 80 (0,0)) (by exact kZ_ BK108) hb);have n1_:=aM_ (bT_ (by exact bZ_ HB) hb);clear BK108 HB;have BK108:=n0_;have HB:=n1_;clear n0_ n1_ hb;have hcz16_0 : w15.cell? ⟨gb108,0,none⟩ = some (.string a0_0):=(kC_ BK108.out 0).trans rfl;have hcz16_1 : w15.cell? ⟨gb108,1,none⟩ = some (.slice A0_1 l0_1.length c0_1):=(kC_ BK108.out 1).trans rfl;have hcz16_2 : w15.cell? ⟨gb108,2,none⟩ = some (.slice A0_2 l0_2.length c0_2):=(kC_ BK108.out 2).trans rfl;have hcz16_3 : w15.cell? ⟨gb108,3,none⟩ = some (.slice A0_3 l0_3.length c0_3):=(kC_ BK108.out 3).trans rfl;have hfz16_0:=kF_ BK108.out 0;have hfz16_1:=kF_ BK108.out 1;have hfz16_2:=kF_ BK108.out 2;have hfz16_3:=kF_ BK108.out 3) | ((with_reducible refine gate_callee (f:=134) rfl ?_);refine goesL_ (some 21) rfl rfl Try.func134 (by kernel_rfl) rfl #[.slice A0_2 l0_2.length c0_2,.int .i64 t109] rfl (by (try simp only [mA_,mC_,mN_]);first | done | rfl | (simp only [lD_,lT_];rfl)) ?_;(with_reducible refine (laws_szByS.calls _ _ l0_2 t109 t110 _ ?side1 ?side2 A11.out).mono ?_);(case side1=>repeat (first | exact (Kd.C_below HR0_2.out HB.out) | (with_reducible refine cA_ ?_ _) | (with_reducible refine cN_ ?_ _) | (with_reducible refine cD_ ?_)));(case side2=>exact HC0_2.out);rintro e w' ⟨rfl,⟨nd,rfl⟩⟩;refine ⟨_,rfl,?_⟩))
    go_ret
    exact ⟨by first | rfl | (simp [errW_none,errW_some] <;> rfl) | (simp [*, errW_none,errW_some] <;> rfl),by exact bZ_ HB⟩
   ·rw [if_neg c12] at H
    have c12b0 : decide (t110 < 0) = false:=decide_eq_false c12
    clear c12
    replace H:=oB_ H
    obtain ⟨t111,A170,H⟩:=H
    replace H : (if t111 < 0 then (some (-1)) else (some t111)) = some r:=H
    have A17:=aM_ A170
    clear A170
    by_cases c18 : t111 < 0
    ·rw [if_pos c18] at H
     have c18b0 : decide (t111 < 0) = true:=decide_eq_true c18
     clear c18
     obtain rfl:=Option.some.inj H
     go_enter Try.func61,Try.ntmps61
     go_wp2_with (first | ((with_reducible refine gate_dst (N:=2) rfl ?_);refine box_event ?hg (N:=2) ?hd (cs:=#[.string a0_0,.slice A0_1 l0_1.length c0_1,.slice A0_2 l0_2.length c0_2,.slice A0_3 l0_3.length c0_3]) (t:=80) ?hr ?_;(case hd=>rfl);(case hg=>rfl);(case hr=>first | (go_simp;done) | (go_simp;rfl));intro gb108 hg w19 hbox hb;have n0_:=aM_ (bT_ (by exact bZ_ HB) hb);have n1_:=aM_ (hbox);have n2_:=aM_ ((by rw [hg];exact (bS_ (by exact bZ_ HB)) : w.heap.size ≤ gb108));have n3_:=aM_ ((by rw [hg];exact (bS_ (by exact bZ_ HB)) : w.heap.size ≤ gb108));clear HB;have HB:=n0_;have BK108:=n1_;have GW108:=n2_;have GE108:=n3_;clear n0_ n1_ n2_ n3_ hb hbox hg;have hcz20_0 : w19.cell? ⟨gb108,0,none⟩ = some (.string a0_0):=(kC_ BK108.out 0).trans rfl;have hcz20_1 : w19.cell? ⟨gb108,1,none⟩ = some (.slice A0_1 l0_1.length c0_1):=(kC_ BK108.out 1).trans rfl;have hcz20_2 : w19.cell? ⟨gb108,2,none⟩ = some (.slice A0_2 l0_2.length c0_2):=(kC_ BK108.out 2).trans rfl;have hcz20_3 : w19.cell? ⟨gb108,3,none⟩ = some (.slice A0_3 l0_3.length c0_3):=(kC_ BK108.out 3).trans rfl;have hfz20_0:=kF_ BK108.out 0;have hfz20_1:=kF_ BK108.out 1;have hfz20_2:=kF_ BK108.out 2;have hfz20_3:=kF_ BK108.out 3) | ((with_reducible refine gate_callee (f:=133) rfl ?_);refine goesL_ (some 15) rfl rfl Try.func133 (by kernel_rfl) rfl #[.slice A0_1 l0_1.length c0_1,.int .i64 (wrap64 (a1 - (a0_0.size : Int)))] rfl (by (try simp only [mA_,mC_,mN_]);first | done | rfl | (simp only [lD_,lT_];rfl)) ?_;(with_reducible refine (laws_szColS.calls k _ _ l0_1 (wrap64 (a1 - (a0_0.size : Int))) t109 _ ?side1 ?side2 A6.out).mono ?_);(case side1=>repeat (first | exact (Kd.C_below HR0_1.out HB.out) | (with_reducible refine cA_ ?_ _) | (with_reducible refine cN_ ?_ _) | (with_reducible refine cD_ ?_)));(case side2=>exact HC0_1.out);rintro e w21 ⟨rfl,hb⟩;refine ⟨_,rfl,?_⟩;have n0_:=aM_ (blk_below (g:=gb108) (o:=.cells #[.string a0_0,.slice A0_1 l0_1.length c0_1,.slice A0_2 l0_2.length c0_2,.slice A0_3 l0_3.length c0_3] 80 (0,0)) (by exact kZ_ BK108) hb);have n1_:=aM_ (bT_ (by exact bZ_ HB) hb);clear BK108 HB;have BK108:=n0_;have HB:=n1_;clear n0_ n1_ hb;have hcz22_0 : w21.cell? ⟨gb108,0,none⟩ = some (.string a0_0):=(kC_ BK108.out 0).trans rfl;have hcz22_1 : w21.cell? ⟨gb108,1,none⟩ = some (.slice A0_1 l0_1.length c0_1):=(kC_ BK108.out 1).trans rfl;have hcz22_2 : w21.cell? ⟨gb108,2,none⟩ = some (.slice A0_2 l0_2.length c0_2):=(kC_ BK108.out 2).trans rfl;have hcz22_3 : w21.cell? ⟨gb108,3,none⟩ = some (.slice A0_3 l0_3.length c0_3):=(kC_ BK108.out 3).trans rfl;have hfz22_0:=kF_ BK108.out 0;have hfz22_1:=kF_ BK108.out 1;have hfz22_2:=kF_ BK108.out 2;have hfz22_3:=kF_ BK108.out 3) | ((with_reducible refine gate_callee (f:=134) rfl ?_);refine goesL_ (some 21) rfl rfl Try.func134 (by kernel_rfl) rfl #[.slice A0_2 l0_2.length c0_2,.int .i64 t109] rfl (by (try simp only [mA_,mC_,mN_]);first | done | rfl | (simp only [lD_,lT_];rfl)) ?_;(with_reducible refine (laws_szByS.calls _ _ l0_2 t109 t110 _ ?side1 ?side2 A11.out).mono ?_);(case side1=>repeat (first | exact (Kd.C_below HR0_2.out HB.out) | (with_reducible refine cA_ ?_ _) | (with_reducible refine cN_ ?_ _) | (with_reducible refine cD_ ?_)));(case side2=>exact HC0_2.out);rintro e w' ⟨rfl,⟨nd,rfl⟩⟩;refine ⟨_,rfl,?_⟩) | ((with_reducible refine gate_callee (f:=135) rfl ?_);refine goesL_ (some 27) rfl rfl Try.func135 (by kernel_rfl) rfl #[.slice A0_3 l0_3.length c0_3,.int .i64 t110] rfl (by (try simp only [mA_,mC_,mN_]);first | done | rfl | (simp only [lD_,lT_];rfl)) ?_;(with_reducible refine (laws_szIndexS.calls k _ _ l0_3 t110 t111 _ ?side1 ?side2 A17.out).mono ?_);(case side1=>repeat (first | exact (Kd.C_below HR0_3.out (by exact bZ_ HB)) | (with_reducible refine cA_ ?_ _) | (with_reducible refine cN_ ?_ _) | (with_reducible refine cD_ ?_)));(case side2=>exact HC0_3.out);rintro e w23 ⟨rfl,hb⟩;refine ⟨_,rfl,?_⟩;have n0_:=aM_ (blk_below (g:=gb108) (o:=.cells #[.string a0_0,.slice A0_1 l0_1.length c0_1,.slice A0_2 l0_2.length c0_2,.slice A0_3 l0_3.length c0_3] 80 (0,0)) (by exact kZ_ BK108) hb);have n1_:=aM_ (bT_ (by exact bZ_ HB) hb);clear BK108 HB;have BK108:=n0_;have HB:=n1_;clear n0_ n1_ hb))
     go_ret
     exact ⟨by first | rfl | (simp [errW_none,errW_some] <;> rfl) | (simp [*, errW_none,errW_some] <;> rfl),by exact bZ_ HB⟩
    ·rw [if_neg c18] at H
     have c18b0 : decide (t111 < 0) = false:=decide_eq_false c18
     clear c18
     obtain rfl:=Option.some.inj H
     go_enter Try.func61,Try.ntmps61
     go_wp2_with (first | ((with_reducible refine gate_dst (N:=2) rfl ?_);refine box_event ?hg (N:=2) ?hd (cs:=#[.string a0_0,.slice A0_1 l0_1.length c0_1,.slice A0_2 l0_2.length c0_2,.slice A0_3 l0_3.length c0_3]) (t:=80) ?hr ?_;(case hd=>rfl);(case hg=>rfl);(case hr=>first | (go_simp;done) | (go_simp;rfl));intro gb108 hg w24 hbox hb;have n0_:=aM_ (bT_ (by exact bZ_ HB) hb);have n1_:=aM_ (hbox);have n2_:=aM_ ((by rw [hg];exact (bS_ (by exact bZ_ HB)) : w.heap.size ≤ gb108));have n3_:=aM_ ((by rw [hg];exact (bS_ (by exact bZ_ HB)) : w.heap.size ≤ gb108));clear HB;have HB:=n0_;have BK108:=n1_;have GW108:=n2_;have GE108:=n3_;clear n0_ n1_ n2_ n3_ hb hbox hg;have hcz25_0 : w24.cell? ⟨gb108,0,none⟩ = some (.string a0_0):=(kC_ BK108.out 0).trans rfl;have hcz25_1 : w24.cell? ⟨gb108,1,none⟩ = some (.slice A0_1 l0_1.length c0_1):=(kC_ BK108.out 1).trans rfl;have hcz25_2 : w24.cell? ⟨gb108,2,none⟩ = some (.slice A0_2 l0_2.length c0_2):=(kC_ BK108.out 2).trans rfl;have hcz25_3 : w24.cell? ⟨gb108,3,none⟩ = some (.slice A0_3 l0_3.length c0_3):=(kC_ BK108.out 3).trans rfl;have hfz25_0:=kF_ BK108.out 0;have hfz25_1:=kF_ BK108.out 1;have hfz25_2:=kF_ BK108.out 2;have hfz25_3:=kF_ BK108.out 3) | ((with_reducible refine gate_callee (f:=133) rfl ?_);refine goesL_ (some 15) rfl rfl Try.func133 (by kernel_rfl) rfl #[.slice A0_1 l0_1.length c0_1,.int .i64 (wrap64 (a1 - (a0_0.size : Int)))] rfl (by (try simp only [mA_,mC_,mN_]);first | done | rfl | (simp only [lD_,lT_];rfl)) ?_;(with_reducible refine (laws_szColS.calls k _ _ l0_1 (wrap64 (a1 - (a0_0.size : Int))) t109 _ ?side1 ?side2 A6.out).mono ?_);(case side1=>repeat (first | exact (Kd.C_below HR0_1.out HB.out) | (with_reducible refine cA_ ?_ _) | (with_reducible refine cN_ ?_ _) | (with_reducible refine cD_ ?_)));(case side2=>exact HC0_1.out);rintro e w26 ⟨rfl,hb⟩;refine ⟨_,rfl,?_⟩;have n0_:=aM_ (blk_below (g:=gb108) (o:=.cells #[.string a0_0,.slice A0_1 l0_1.length c0_1,.slice A0_2 l0_2.length c0_2,.slice A0_3 l0_3.length c0_3] 80 (0,0)) (by exact kZ_ BK108) hb);have n1_:=aM_ (bT_ (by exact bZ_ HB) hb);clear BK108 HB;have BK108:=n0_;have HB:=n1_;clear n0_ n1_ hb;have hcz27_0 : w26.cell? ⟨gb108,0,none⟩ = some (.string a0_0):=(kC_ BK108.out 0).trans rfl;have hcz27_1 : w26.cell? ⟨gb108,1,none⟩ = some (.slice A0_1 l0_1.length c0_1):=(kC_ BK108.out 1).trans rfl;have hcz27_2 : w26.cell? ⟨gb108,2,none⟩ = some (.slice A0_2 l0_2.length c0_2):=(kC_ BK108.out 2).trans rfl;have hcz27_3 : w26.cell? ⟨gb108,3,none⟩ = some (.slice A0_3 l0_3.length c0_3):=(kC_ BK108.out 3).trans rfl;have hfz27_0:=kF_ BK108.out 0;have hfz27_1:=kF_ BK108.out 1;have hfz27_2:=kF_ BK108.out 2;have hfz27_3:=kF_ BK108.out 3) | ((with_reducible refine gate_callee (f:=134) rfl ?_);refine goesL_ (some 21) rfl rfl Try.func134 (by kernel_rfl) rfl #[.slice A0_2 l0_2.length c0_2,.int .i64 t109] rfl (by (try simp only [mA_,mC_,mN_]);first | done | rfl | (simp only [lD_,lT_];rfl)) ?_;(with_reducible refine (laws_szByS.calls _ _ l0_2 t109 t110 _ ?side1 ?side2 A11.out).mono ?_);(case side1=>repeat (first | exact (Kd.C_below HR0_2.out HB.out) | (with_reducible refine cA_ ?_ _) | (with_reducible refine cN_ ?_ _) | (with_reducible refine cD_ ?_)));(case side2=>exact HC0_2.out);rintro e w' ⟨rfl,⟨nd,rfl⟩⟩;refine ⟨_,rfl,?_⟩) | ((with_reducible refine gate_callee (f:=135) rfl ?_);refine goesL_ (some 27) rfl rfl Try.func135 (by kernel_rfl) rfl #[.slice A0_3 l0_3.length c0_3,.int .i64 t110] rfl (by (try simp only [mA_,mC_,mN_]);first | done | rfl | (simp only [lD_,lT_];rfl)) ?_;(with_reducible refine (laws_szIndexS.calls k _ _ l0_3 t110 t111 _ ?side1 ?side2 A17.out).mono ?_);(case side1=>repeat (first | exact (Kd.C_below HR0_3.out (by exact bZ_ HB)) | (with_reducible refine cA_ ?_ _) | (with_reducible refine cN_ ?_ _) | (with_reducible refine cD_ ?_)));(case side2=>exact HC0_3.out);rintro e w28 ⟨rfl,hb⟩;refine ⟨_,rfl,?_⟩;have n0_:=aM_ (blk_below (g:=gb108) (o:=.cells #[.string a0_0,.slice A0_1 l0_1.length c0_1,.slice A0_2 l0_2.length c0_2,.slice A0_3 l0_3.length c0_3] 80 (0,0)) (by exact kZ_ BK108) hb);have n1_:=aM_ (bT_ (by exact bZ_ HB) hb);clear BK108 HB;have BK108:=n0_;have HB:=n1_;clear n0_ n1_ hb))
     go_ret
     exact ⟨by first | rfl | (simp [errW_none,errW_some] <;> rfl) | (simp [*, errW_none,errW_some] <;> rfl),by exact bZ_ HB⟩
def spec_l9SameParts.l0 : Nat → List (S184) → List (S184) → Int → Option (Bool)
 | 0,_,_,_=>none
 | k + 1,x0,x1,x5=>if x5 < (x0.length : Int) then (if 0 ≤ x5 then (if x5 < (x1.length : Int) then (if (!(((rd_T184 x0 x5).f0) == ((rd_T184 x1 x5).f0)) || (!(((rd_T184 x0 x5).f1) == ((rd_T184 x1 x5).f1)))) = true then (some false) else (spec_l9SameParts.l0 k x0 x1 (wrap64 (x5 + 1)))) else (none)) else (none)) else (some true)
def spec_l9SameParts.f (k : Nat) (l0 : List (S184)) (l1 : List (S184)) : Option (Bool):=if (l0.length : Int) = (l1.length : Int) then (spec_l9SameParts.l0 k l0 l1 0) else (some false)
theorem spec_l9SameParts.mono_l : ∀ k,(∀ y0 y1 y2,LeO (spec_l9SameParts.l0 k y0 y1 y2) (spec_l9SameParts.l0 (k + 1) y0 y1 y2))
 | 0=>fun _ _ _ r h=>by simp [spec_l9SameParts.l0] at h
 | k + 1=>by
  have ih0:=spec_l9SameParts.mono_l k
  ·intro y0 y1 y2
   unfold spec_l9SameParts.l0
   repeat' first
   | (with_reducible exact ih0 _ _ _)
   | (with_reducible exact LeO.refl _)
   | (with_reducible exact LeO.none _)
   | (with_reducible refine LeO.ite ?_ ?_)
   | (with_reducible refine LeO.bind ?_ (fun _=>?_))
   | exact ih0 _ _ _
   | exact LeO.none _
   | refine LeO.ite ?_ ?_
   | refine LeO.bind ?_ (fun _=>?_)
theorem spec_l9SameParts.mono : ∀ a0 a1 k,LeO (spec_l9SameParts.f k a0 a1) (spec_l9SameParts.f (k + 1) a0 a1):=by
 intro a0 a1 k
 have ih0:=spec_l9SameParts.mono_l k
 unfold spec_l9SameParts.f
 repeat' first
   | (with_reducible exact ih0 _ _ _)
   | (with_reducible exact LeO.refl _)
   | (with_reducible exact LeO.none _)
   | (with_reducible refine LeO.ite ?_ ?_)
   | (with_reducible refine LeO.bind ?_ (fun _=>?_))
   | exact ih0 _ _ _
   | exact LeO.none _
   | refine LeO.ite ?_ ?_
   | refine LeO.bind ?_ (fun _=>?_)
set_option maxHeartbeats 8000000 in
set_option maxRecDepth 100000 in
theorem spec_l9SameParts.calls (k : Nat) (A0 : Option Addr) (c0 : Nat) (l0 : List (S184)) (A1 : Option Addr) (c1 : Nat) (l1 : List (S184)) (r : Bool) (w : World) (hr0 : Kd.C k184 w A0 l0.length l0) (hc0 : l0.length ≤ c0) (hr1 : Kd.C k184 w A1 l1.length l1) (hc1 : l1.length ≤ c1) (h : spec_l9SameParts.f k l0 l1 = some r) :
  Calls Try.prog 136 #[.slice A0 l0.length c0,.slice A1 l1.length c1] w fun e w'=>e = .returned (.bool r) ∧ Drawn0 w w':=by
 have hu184:=Try.underlying184
 have HR0:=aM_ hr0
 have HC0:=aM_ hc0
 clear hr0 hc0
 have HR1:=aM_ hr1
 have HC1:=aM_ hc1
 clear hr1 hc1
 have H : (if (l0.length : Int) = (l1.length : Int) then (spec_l9SameParts.l0 k l0 l1 0) else (some false)) = some r:=h
 clear h
 by_cases c3 : (l0.length : Int) = (l1.length : Int)
 ·rw [if_pos c3] at H
  have c3b0 : ((l0.length : Int) == (l1.length : Int)) = true:=beq_iff_eq.mpr c3
  have c3b1 : ((l0.length : Int) != (l1.length : Int)) = false:=bne_eq_false_iff_eq.mpr c3
  have c3b2 : (l0.length == l1.length) = true:=by first | simpa using c3 | (simp at c3 ⊢;omega)
  clear c3
  have H':=aM_ H
  clear H
  go_enter Try.func136,Try.ntmps136
  go_wp2
  repeat (go_quiet (fail);try go_wp2)
  (try simp only [Act.put,sI_,sS_,sZ_])
  go_loopg [5] k (fun kq v5 w'=>∃ (x5_1 : Int),v5 = .int .i64 x5_1 ∧ Aside0 (spec_l9SameParts.l0 kq l0 l1 x5_1 = some r) ∧ Aside0 (kq ≤ k) ∧ Drawn0 w w')
  case atStart=>exact ⟨(0),(by first | rfl | (simp;done) | (simp [*];done)),H', ⟨Nat.le_refl _⟩,by repeat (first | exact Drawn0.refl _ | apply Drawn0.step)⟩
  case round =>
   clear H'
   clear c3b0 c3b1 c3b2
   obtain ⟨x5_1,rfl,HA,HK1,⟨m1,rfl⟩⟩:=hrel
   cases gk with
   | zero=>exact absurd HA.out (by simp [spec_l9SameParts.l0])
   | succ k1 =>
    have H:=HA.out
    clear HA
    simp only [spec_l9SameParts.l0] at H
    by_cases c4 : x5_1 < (l0.length : Int)
    ·rw [if_pos c4] at H
     have c4b0 : decide (x5_1 < (l0.length : Int)) = true:=decide_eq_true c4
     clear c4
     by_cases c5 : 0 ≤ x5_1
     ·rw [if_pos c5] at H
      have c5b0 : decide (0 ≤ x5_1) = true:=decide_eq_true c5
      clear c5
      by_cases c6 : x5_1 < (l1.length : Int)
      ·rw [if_pos c6] at H
       have c6b0 : decide (x5_1 < (l1.length : Int)) = true:=decide_eq_true c6
       clear c6
       by_cases c7 : (!(((rd_T184 l0 x5_1).f0) == ((rd_T184 l1 x5_1).f0)) || (!(((rd_T184 l0 x5_1).f1) == ((rd_T184 l1 x5_1).f1)))) = true
       ·rw [if_pos c7] at H
        have c7b0 : (!(((rd_T184 l0 x5_1).f0) == ((rd_T184 l1 x5_1).f0)) || (!(((rd_T184 l0 x5_1).f1) == ((rd_T184 l1 x5_1).f1)))) = true:=c7
        clear c7
        obtain rfl:=Option.some.inj H
        have p112 : 0 ≤ (x5_1 : Int):=oT_ (by first | (with_reducible assumption) | assumption)
        have q112 : x5_1 < (l0.length : Int):=oT_ (by first | (with_reducible assumption) | assumption)
        obtain ⟨ad112,e112,hx112_0,hx112_1⟩:=at_T184 HR0.out x5_1 p112 q112
        cases e112
        replace p112:=eq_true p112
        replace q112:=eq_true q112
        have p113 : 0 ≤ (x5_1 : Int):=oT_ (by first | (with_reducible assumption) | assumption)
        have q113 : x5_1 < (l1.length : Int):=oT_ (by first | (with_reducible assumption) | assumption)
        obtain ⟨ad113,e113,hx113_0,hx113_1⟩:=at_T184 HR1.out x5_1 p113 q113
        cases e113
        replace p113:=eq_true p113
        replace q113:=eq_true q113
        go_wp2
        repeat (go_quiet (fail);try go_wp2)
        go_ret
        exact ⟨by first | rfl | (simp;done) | (simp [*];done),by repeat (first | exact Drawn0.refl _ | apply Drawn0.step)⟩
       ·rw [if_neg c7] at H
        have c7b0 : (!(((rd_T184 l0 x5_1).f0) == ((rd_T184 l1 x5_1).f0)) || (!(((rd_T184 l0 x5_1).f1) == ((rd_T184 l1 x5_1).f1)))) = false:=by simpa using c7
        clear c7
        have H':=aM_ H
        clear H
        have p112 : 0 ≤ (x5_1 : Int):=oT_ (by first | (with_reducible assumption) | assumption)
        have q112 : x5_1 < (l0.length : Int):=oT_ (by first | (with_reducible assumption) | assumption)
        obtain ⟨ad112,e112,hx112_0,hx112_1⟩:=at_T184 HR0.out x5_1 p112 q112
        cases e112
        replace p112:=eq_true p112
        replace q112:=eq_true q112
        have p113 : 0 ≤ (x5_1 : Int):=oT_ (by first | (with_reducible assumption) | assumption)
        have q113 : x5_1 < (l1.length : Int):=oT_ (by first | (with_reducible assumption) | assumption)
        obtain ⟨ad113,e113,hx113_0,hx113_1⟩:=at_T184 HR1.out x5_1 p113 q113
        cases e113
        replace p113:=eq_true p113
        replace q113:=eq_true q113
        go_wp2
        repeat (go_quiet (fail);try go_wp2)
        go_roundg k1
        case measure=>have:=HK1.out;omega
        case rel=>exact ⟨(wrap64 (x5_1 + 1)),(by first | rfl | (simp;done) | (simp [*];done)),H', ⟨by have:=HK1.out;omega⟩,by repeat (first | exact Drawn0.refl _ | apply Drawn0.step)⟩
      ·rw [if_neg c6] at H
       exact absurd H (by simp)
     ·rw [if_neg c5] at H
      exact absurd H (by simp)
    ·rw [if_neg c4] at H
     have c4b0 : decide (x5_1 < (l0.length : Int)) = false:=decide_eq_false c4
     clear c4
     obtain rfl:=Option.some.inj H
     go_wp2
     repeat (go_quiet (fail);try go_wp2)
     go_ret
     exact ⟨by first | rfl | (simp;done) | (simp [*];done),by repeat (first | exact Drawn0.refl _ | apply Drawn0.step)⟩
 ·rw [if_neg c3] at H
  have c3b0 : ((l0.length : Int) == (l1.length : Int)) = false:=beq_eq_false_iff_ne.mpr c3
  have c3b1 : ((l0.length : Int) != (l1.length : Int)) = true:=bne_iff_ne.mpr c3
  have c3b2 : (l0.length == l1.length) = false:=by first | simpa using c3 | (simp at c3 ⊢;omega)
  obtain rfl:=Option.some.inj H
  go_enter Try.func136,Try.ntmps136
  go_wp2
  repeat (go_quiet (fail);try go_wp2)
  go_ret
  exact ⟨by first | rfl | (simp;done) | (simp [*];done),by repeat (first | exact Drawn0.refl _ | apply Drawn0.step)⟩
end Go.Proofs.Ytllgmgpfdnofmaa.PFnExactSameDef
