import Derived.Test.YtipehkeabnfngaaDoorZDSPFnExactDefsTextx0
namespace Go.Proofs.YtipehkeabnfngaaDoor.PFnExactDefsText
open Go.RowKit Go.Proofs.YtipehkeabnfngaaDoorW.PrintWords Go.Proofs.YtipehkeabnfngaaDoorW.PrintLast Go.Proofs.YtipehkeabnfngaaDoorW.PrintMore Go.Proofs.YtipehkeabnfngaaDoor.Xtra
attribute [local go_sem] max2_int min2_int max_two min_two max_three min_three max_four min_four str_leq str_gtr str_geq setCell_drewN cell_set2 cell_set3   -- for this text's walks alone
set_option linter.unusedVariables false
set_option linter.unusedSimpArgs false
mutual
def impl_twice.l0 : Nat → List (S82) → Int → Int → ByteArray → List (S82) → List (S85) → List (S69) → Option (Bool)
 | 0,_,_,_,_,_,_,_=>none
 | k + 1,x12,x13,x14,x291000,x291001,x291002,x291003=>if x14 < x13 then (if 0 ≤ x14 then (if x14 < (x12.length : Int) then (if x14 ≤ (x291001.length : Int) then ((some (x291001.take (x14 : Int).toNat : List (S82))).bind fun y293=>(impl_twice.l1 k x12 x13 x14 y293 (y293.length : Int) 0 x291000 x291001 x291002 x291003 ((rd_T82 x12 x14).f0) ((rd_T82 x12 x14).f1) ((rd_T82 x12 x14).f2))) else (none)) else (none)) else (none)) else (impl_twice.l2 k x291003 (x291003.length : Int) 0 x291000 x291001 x291002 x291003)
def impl_twice.l1 : Nat → List (S82) → Int → Int → List (S82) → Int → Int → ByteArray → List (S82) → List (S85) → List (S69) → ByteArray → Int → Bool → Option (Bool)
 | 0,_,_,_,_,_,_,_,_,_,_,_,_,_=>none
 | k + 1,x12,x13,x14,x22,x23,x24,x291000,x291001,x291002,x291003,x293000,x293001,x293002=>if x24 < x23 then (if 0 ≤ x24 then (if x24 < (x22.length : Int) then (if ((rd_T82 x22 x24).f0).toList = x293000.toList then (some true) else (impl_twice.l1 k x12 x13 x14 x22 x23 (wrap64 (x24 + 1)) x291000 x291001 x291002 x291003 x293000 x293001 x293002)) else (none)) else (none)) else (impl_twice.l0 k x12 x13 (wrap64 (x14 + 1)) x291000 x291001 x291002 x291003)
def impl_twice.l2 : Nat → List (S69) → Int → Int → ByteArray → List (S82) → List (S85) → List (S69) → Option (Bool)
 | 0,_,_,_,_,_,_,_=>none
 | k + 1,x36,x37,x38,x291000,x291001,x291002,x291003=>if x38 < x37 then (if 0 ≤ x38 then (if x38 < (x36.length : Int) then (if x38 ≤ (x291003.length : Int) then ((some (x291003.take (x38 : Int).toNat : List (S69))).bind fun y301=>(impl_twice.l3 k x36 x37 x38 y301 (y301.length : Int) 0 x291000 x291001 x291002 x291003 ((rd_T69 x36 x38).f0) ((rd_T69 x36 x38).f1) ((rd_T69 x36 x38).f2))) else (none)) else (none)) else (none)) else (some false)
def impl_twice.l3 : Nat → List (S69) → Int → Int → List (S69) → Int → Int → ByteArray → List (S82) → List (S85) → List (S69) → ByteArray → Bool → List (S85) → Option (Bool)
 | 0,_,_,_,_,_,_,_,_,_,_,_,_,_=>none
 | k + 1,x36,x37,x38,x46,x47,x48,x291000,x291001,x291002,x291003,x301000,x301001,x301002=>if x48 < x47 then (if 0 ≤ x48 then (if x48 < (x46.length : Int) then (if ((rd_T69 x46 x48).f0).toList = x301000.toList then (some true) else (impl_twice.l3 k x36 x37 x38 x46 x47 (wrap64 (x48 + 1)) x291000 x291001 x291002 x291003 x301000 x301001 x301002)) else (none)) else (none)) else (impl_twice.l2 k x36 x37 (wrap64 (x38 + 1)) x291000 x291001 x291002 x291003)
end
def impl_twice.f (k : Nat) (a0_0 : ByteArray) (l0_1 : List (S82)) (l0_2 : List (S85)) (l0_3 : List (S69)) : Option (Bool):=impl_twice.l0 k l0_1 (l0_1.length : Int) 0 a0_0 l0_1 l0_2 l0_3
theorem impl_twice.mono_l : ∀ k,(∀ y0 y1 y2 y3 y4 y5 y6,LeO (impl_twice.l0 k y0 y1 y2 y3 y4 y5 y6) (impl_twice.l0 (k + 1) y0 y1 y2 y3 y4 y5 y6)) ∧ (∀ y0 y1 y2 y3 y4 y5 y6 y7 y8 y9 y10 y11 y12,LeO (impl_twice.l1 k y0 y1 y2 y3 y4 y5 y6 y7 y8 y9 y10 y11 y12) (impl_twice.l1 (k + 1) y0 y1 y2 y3 y4 y5 y6 y7 y8 y9 y10 y11 y12)) ∧ (∀ y0 y1 y2 y3 y4 y5 y6,LeO (impl_twice.l2 k y0 y1 y2 y3 y4 y5 y6) (impl_twice.l2 (k + 1) y0 y1 y2 y3 y4 y5 y6)) ∧ (∀ y0 y1 y2 y3 y4 y5 y6 y7 y8 y9 y10 y11 y12,LeO (impl_twice.l3 k y0 y1 y2 y3 y4 y5 y6 y7 y8 y9 y10 y11 y12) (impl_twice.l3 (k + 1) y0 y1 y2 y3 y4 y5 y6 y7 y8 y9 y10 y11 y12))
 | 0=>⟨fun _ _ _ _ _ _ _ r h=>by simp [impl_twice.l0] at h,fun _ _ _ _ _ _ _ _ _ _ _ _ _ r h=>by simp [impl_twice.l1] at h,fun _ _ _ _ _ _ _ r h=>by simp [impl_twice.l2] at h,fun _ _ _ _ _ _ _ _ _ _ _ _ _ r h=>by simp [impl_twice.l3] at h⟩
 | k + 1=>by
  obtain ⟨ih0,ih1,ih2,ih3⟩:=impl_twice.mono_l k
  refine ⟨?_,?_,?_,?_⟩
  ·intro y0 y1 y2 y3 y4 y5 y6
   unfold impl_twice.l0
   repeat' first
   | (with_reducible exact ih0 _ _ _ _ _ _ _)
   | (with_reducible exact ih1 _ _ _ _ _ _ _ _ _ _ _ _ _)
   | (with_reducible exact ih2 _ _ _ _ _ _ _)
   | (with_reducible exact ih3 _ _ _ _ _ _ _ _ _ _ _ _ _)
   | (with_reducible exact LeO.refl _)
   | (with_reducible exact LeO.none _)
   | (with_reducible refine LeO.ite ?_ ?_)
   | (with_reducible refine LeO.bind ?_ (fun _=>?_))
   | exact ih0 _ _ _ _ _ _ _
   | exact ih1 _ _ _ _ _ _ _ _ _ _ _ _ _
   | exact ih2 _ _ _ _ _ _ _
   | exact ih3 _ _ _ _ _ _ _ _ _ _ _ _ _
   | exact LeO.none _
   | refine LeO.ite ?_ ?_
   | refine LeO.bind ?_ (fun _=>?_)
  ·intro y0 y1 y2 y3 y4 y5 y6 y7 y8 y9 y10 y11 y12
   unfold impl_twice.l1
   repeat' first
   | (with_reducible exact ih0 _ _ _ _ _ _ _)
   | (with_reducible exact ih1 _ _ _ _ _ _ _ _ _ _ _ _ _)
   | (with_reducible exact ih2 _ _ _ _ _ _ _)
   | (with_reducible exact ih3 _ _ _ _ _ _ _ _ _ _ _ _ _)
   | (with_reducible exact LeO.refl _)
   | (with_reducible exact LeO.none _)
   | (with_reducible refine LeO.ite ?_ ?_)
   | (with_reducible refine LeO.bind ?_ (fun _=>?_))
   | exact ih0 _ _ _ _ _ _ _
   | exact ih1 _ _ _ _ _ _ _ _ _ _ _ _ _
   | exact ih2 _ _ _ _ _ _ _
   | exact ih3 _ _ _ _ _ _ _ _ _ _ _ _ _
   | exact LeO.none _
   | refine LeO.ite ?_ ?_
   | refine LeO.bind ?_ (fun _=>?_)
  ·intro y0 y1 y2 y3 y4 y5 y6
   unfold impl_twice.l2
   repeat' first
   | (with_reducible exact ih0 _ _ _ _ _ _ _)
   | (with_reducible exact ih1 _ _ _ _ _ _ _ _ _ _ _ _ _)
   | (with_reducible exact ih2 _ _ _ _ _ _ _)
   | (with_reducible exact ih3 _ _ _ _ _ _ _ _ _ _ _ _ _)
   | (with_reducible exact LeO.refl _)
   | (with_reducible exact LeO.none _)
   | (with_reducible refine LeO.ite ?_ ?_)
   | (with_reducible refine LeO.bind ?_ (fun _=>?_))
   | exact ih0 _ _ _ _ _ _ _
   | exact ih1 _ _ _ _ _ _ _ _ _ _ _ _ _
   | exact ih2 _ _ _ _ _ _ _
   | exact ih3 _ _ _ _ _ _ _ _ _ _ _ _ _
   | exact LeO.none _
   | refine LeO.ite ?_ ?_
   | refine LeO.bind ?_ (fun _=>?_)
  ·intro y0 y1 y2 y3 y4 y5 y6 y7 y8 y9 y10 y11 y12
   unfold impl_twice.l3
   repeat' first
   | (with_reducible exact ih0 _ _ _ _ _ _ _)
   | (with_reducible exact ih1 _ _ _ _ _ _ _ _ _ _ _ _ _)
   | (with_reducible exact ih2 _ _ _ _ _ _ _)
   | (with_reducible exact ih3 _ _ _ _ _ _ _ _ _ _ _ _ _)
   | (with_reducible exact LeO.refl _)
   | (with_reducible exact LeO.none _)
   | (with_reducible refine LeO.ite ?_ ?_)
   | (with_reducible refine LeO.bind ?_ (fun _=>?_))
   | exact ih0 _ _ _ _ _ _ _
   | exact ih1 _ _ _ _ _ _ _ _ _ _ _ _ _
   | exact ih2 _ _ _ _ _ _ _
   | exact ih3 _ _ _ _ _ _ _ _ _ _ _ _ _
   | exact LeO.none _
   | refine LeO.ite ?_ ?_
   | refine LeO.bind ?_ (fun _=>?_)
theorem impl_twice.mono : ∀ a0 a1 a2 a3 k,LeO (impl_twice.f k a0 a1 a2 a3) (impl_twice.f (k + 1) a0 a1 a2 a3):=by
 intro a0 a1 a2 a3 k
 obtain ⟨ih0,ih1,ih2,ih3⟩:=impl_twice.mono_l k
 unfold impl_twice.f
 repeat' first
   | (with_reducible exact ih0 _ _ _ _ _ _ _)
   | (with_reducible exact ih1 _ _ _ _ _ _ _ _ _ _ _ _ _)
   | (with_reducible exact ih2 _ _ _ _ _ _ _)
   | (with_reducible exact ih3 _ _ _ _ _ _ _ _ _ _ _ _ _)
   | (with_reducible exact LeO.refl _)
   | (with_reducible exact LeO.none _)
   | (with_reducible refine LeO.ite ?_ ?_)
   | (with_reducible refine LeO.bind ?_ (fun _=>?_))
   | exact ih0 _ _ _ _ _ _ _
   | exact ih1 _ _ _ _ _ _ _ _ _ _ _ _ _
   | exact ih2 _ _ _ _ _ _ _
   | exact ih3 _ _ _ _ _ _ _ _ _ _ _ _ _
   | exact LeO.none _
   | refine LeO.ite ?_ ?_
   | refine LeO.bind ?_ (fun _=>?_)
set_option maxHeartbeats 8000000 in
set_option maxRecDepth 100000 in
theorem impl_twice.calls (k : Nat) (a0_0 : ByteArray) (A0_1 : Option Addr) (c0_1 : Nat) (l0_1 : List (S82)) (A0_2 : Option Addr) (c0_2 : Nat) (l0_2 : List (S85)) (A0_3 : Option Addr) (c0_3 : Nat) (l0_3 : List (S69)) (r : Bool) (w : World) (hr0_1 : Kd.C k82 w A0_1 l0_1.length l0_1) (hc0_1 : l0_1.length ≤ c0_1) (hr0_2 : Kd.C k85 w A0_2 l0_2.length l0_2) (hc0_2 : l0_2.length ≤ c0_2) (hr0_3 : Kd.C k69 w A0_3 l0_3.length l0_3) (hc0_3 : l0_3.length ≤ c0_3) (h : impl_twice.f k a0_0 l0_1 l0_2 l0_3 = some r) :
  Calls Tryd.prog 56 #[.agg #[.string a0_0,.slice A0_1 l0_1.length c0_1,.slice A0_2 l0_2.length c0_2,.slice A0_3 l0_3.length c0_3]] w fun e w'=>e = .returned (.bool r) ∧ Below w.heap.size w w':=by
 have hu35:=Tryd.underlying35
 have hu82:=Tryd.underlying82
 have hu69:=Tryd.underlying69
 have HR0_1:=aM_ hr0_1
 have HC0_1:=aM_ hc0_1
 clear hr0_1 hc0_1
 have HR0_2:=aM_ hr0_2
 have HC0_2:=aM_ hc0_2
 clear hr0_2 hc0_2
 have HR0_3:=aM_ hr0_3
 have HC0_3:=aM_ hc0_3
 clear hr0_3 hc0_3
 have HB:=aM_ (Below.refl w.heap.size w)
 have H : (impl_twice.l0 k l0_1 (l0_1.length : Int) 0 a0_0 l0_1 l0_2 l0_3) = some r:=h
 clear h
 have H':=aM_ H
 clear H
 go_enter Tryd.func56,Tryd.ntmps56
 go_wp2_with (first | ((with_reducible refine gate_dst (N:=1) rfl ?_);refine box_event ?hg (N:=1) ?hd (cs:=#[.string a0_0,.slice A0_1 l0_1.length c0_1,.slice A0_2 l0_2.length c0_2,.slice A0_3 l0_3.length c0_3]) (t:=35) ?hr ?_;(case hd=>rfl);(case hg=>rfl);(case hr=>first | (go_simp;done) | (go_simp;rfl));intro gb290 hg w2 hbox hb;have n0_:=aM_ (bT_ (by exact bZ_ HB) hb);have n1_:=aM_ (hbox);have n2_:=aM_ ((by rw [hg];exact (bS_ (by exact bZ_ HB)) : w.heap.size ≤ gb290));have n3_:=aM_ ((by rw [hg];exact (bS_ (by exact bZ_ HB)) : w.heap.size ≤ gb290));clear HB;have HB:=n0_;have BK290:=n1_;have GW290:=n2_;have GE290:=n3_;clear n0_ n1_ n2_ n3_ hb hbox hg;have hcz3_0 : w2.cell? ⟨gb290,0,none⟩ = some (.string a0_0):=(kC_ BK290.out 0).trans rfl;have hcz3_1 : w2.cell? ⟨gb290,1,none⟩ = some (.slice A0_1 l0_1.length c0_1):=(kC_ BK290.out 1).trans rfl;have hcz3_2 : w2.cell? ⟨gb290,2,none⟩ = some (.slice A0_2 l0_2.length c0_2):=(kC_ BK290.out 2).trans rfl;have hcz3_3 : w2.cell? ⟨gb290,3,none⟩ = some (.slice A0_3 l0_3.length c0_3):=(kC_ BK290.out 3).trans rfl;have hfz3_0:=kF_ BK290.out 0;have hfz3_1:=kF_ BK290.out 1;have hfz3_2:=kF_ BK290.out 2;have hfz3_3:=kF_ BK290.out 3))
 (try simp only [Act.put,sI_,sS_,sZ_])
 go_loopg [14] k (fun kq v14 w'=>∃ (x14_1 : Int),v14 = .int .i64 x14_1 ∧ Aside0 (impl_twice.l0 kq l0_1 (l0_1.length : Int) x14_1 a0_0 l0_1 l0_2 l0_3 = some r) ∧ Aside0 (kq ≤ k) ∧ Aside0 (w'.heap[gb290]? = some (.cells #[.string a0_0,(.slice A0_1 l0_1.length c0_1),(.slice A0_2 l0_2.length c0_2),(.slice A0_3 l0_3.length c0_3)] 35 (0,0))) ∧ Aside0 (Below w.heap.size w w'))
 case atStart=>exact ⟨(0),(by first | rfl | (simp;done) | (simp [*];done)),H', ⟨Nat.le_refl _⟩,⟨by exact kZ_ BK290⟩,⟨by exact bZ_ HB⟩⟩
 case round =>
  clear H'
  clear hcz3_0 hcz3_1 hcz3_2 hcz3_3 hfz3_0 hfz3_1 hfz3_2 hfz3_3
  obtain ⟨x14_1,rfl,HA,HK1,BK290,HB⟩:=hrel
  cases gk with
  | zero=>exact absurd HA.out (by simp [impl_twice.l0])
  | succ k1 =>
   have H:=HA.out
   clear HA
   simp only [impl_twice.l0] at H
   by_cases c4 : x14_1 < (l0_1.length : Int)
   ·rw [if_pos c4] at H
    have c4b0 : decide (x14_1 < (l0_1.length : Int)) = true:=decide_eq_true c4
    clear c4
    by_cases c5 : 0 ≤ x14_1
    ·rw [if_pos c5] at H
     have c5b0 : decide (0 ≤ x14_1) = true:=decide_eq_true c5
     clear c5
     by_cases c6 : x14_1 < (l0_1.length : Int)
     ·rw [if_pos c6] at H
      have c6b0 : decide (x14_1 < (l0_1.length : Int)) = true:=decide_eq_true c6
      clear c6
      have c7b0:=eq_true (oT_ (by first | (with_reducible assumption) | assumption) : 0 ≤ x14_1)
      by_cases c8 : x14_1 ≤ (l0_1.length : Int)
      ·rw [if_pos c8] at H
       have c8b0:=eq_true c8
       have c8b1 : decide (x14_1 ≤ (l0_1.length : Int)) = true:=decide_eq_true c8
       clear c8
       obtain ⟨y293,hy293⟩ : ∃ y_ : List (S82),y_ = (l0_1.take (x14_1 : Int).toNat):=⟨_,rfl⟩
       replace H : (impl_twice.l1 k1 l0_1 (l0_1.length : Int) x14_1 y293 (y293.length : Int) 0 a0_0 l0_1 l0_2 l0_3 ((rd_T82 l0_1 x14_1).f0) ((rd_T82 l0_1 x14_1).f1) ((rd_T82 l0_1 x14_1).f2)) = some r:=by first | (rw [hy293];with_reducible exact H) | (have H2_:=(Option.bind_some _ _).symm.trans H;rw [hy293];with_reducible exact H2_) | (have H2_:=(Option.bind_some _ _).symm.trans H;with_reducible exact H2_) | with_reducible exact H | (rw [hy293];exact H) | exact H
       have Ny293:=aM_ hy293
       clear hy293
       have H':=aM_ H
       clear H
       have p291 : 0 ≤ (x14_1 : Int):=oT_ (by first | (with_reducible assumption) | assumption)
       have q291 : x14_1 < (l0_1.length : Int):=oT_ (by first | (with_reducible assumption) | assumption)
       obtain ⟨ad291,e291,hx291_0,hx291_1,hx291_2⟩:=at_T82 HR0_1.out x14_1 p291 q291
       cases e291
       replace hx291_0:=(HB.out.cell (wL_ w _ hx291_0)).trans hx291_0
       replace hx291_1:=(HB.out.cell (wL_ w _ hx291_1)).trans hx291_1
       replace hx291_2:=(HB.out.cell (wL_ w _ hx291_2)).trans hx291_2
       replace p291:=eq_true p291
       replace q291:=eq_true q291
       go_wp2_with (first | ((with_reducible refine gate_dst (N:=4) rfl ?_);refine box_event ?hg (N:=4) ?hd (cs:=#[.string (⟨#[]⟩ : ByteArray),.int .i64 0,.bool false]) (t:=82) ?hr ?_;(case hd=>rfl);(case hg=>rfl);(case hr=>first | (go_simp;done) | (go_simp;rfl));intro gb292 hg w9 hbox hb;have n0_:=aM_ (blk_below (g:=gb290) (o:=.cells #[.string a0_0,.slice (some ad291) l0_1.length c0_1,.slice A0_2 l0_2.length c0_2,.slice A0_3 l0_3.length c0_3] 35 (0,0)) (by exact kZ_ BK290) hb);have n1_:=aM_ (bT_ (by exact bZ_ HB) hb);have n2_:=aM_ (hbox);have n3_:=aM_ ((by rw [hg];exact (bS_ (by exact bZ_ HB)) : w.heap.size ≤ gb292));have n4_:=aM_ ((by rw [hg];exact (bS_ (by exact bZ_ HB)) : w.heap.size ≤ gb292));have n5_:=aM_ ((by rw [hg];exact nN_ (blk_lt (g:=gb290) (o:=.cells #[.string a0_0,.slice (some ad291) l0_1.length c0_1,.slice A0_2 l0_2.length c0_2,.slice A0_3 l0_3.length c0_3] 35 (0,0)) (by exact kZ_ BK290)) : gb290 ≠ gb292));have n6_:=aM_ ((by rw [hg];exact Nat.ne_of_gt (blk_lt (g:=gb290) (o:=.cells #[.string a0_0,.slice (some ad291) l0_1.length c0_1,.slice A0_2 l0_2.length c0_2,.slice A0_3 l0_3.length c0_3] 35 (0,0)) (by exact kZ_ BK290)) : gb292 ≠ gb290));clear BK290 HB;have BK290:=n0_;have HB:=n1_;have BK292:=n2_;have GW292:=n3_;have GE292:=n4_;have NB290_292:=n5_;have NB292_290:=n6_;clear n0_ n1_ n2_ n3_ n4_ n5_ n6_ hb hbox hg;have hnb10:=NB292_290.out;have hnc10:=NB290_292.out;have hcz11_0 : w9.cell? ⟨gb292,0,none⟩ = some (.string (⟨#[]⟩ : ByteArray)):=(kC_ BK292.out 0).trans rfl;have hcz11_1 : w9.cell? ⟨gb292,1,none⟩ = some (.int .i64 0):=(kC_ BK292.out 1).trans rfl;have hcz11_2 : w9.cell? ⟨gb292,2,none⟩ = some (.bool false):=(kC_ BK292.out 2).trans rfl;have hfz11_0:=kF_ BK292.out 0;have hfz11_1:=kF_ BK292.out 1;have hfz11_2:=kF_ BK292.out 2) | ((with_reducible refine gate_store (t:=82) (p:=4) rfl ?_);refine store_event (t:=82) (p:=4) (v:=?vo_w12) (w1:=(((w9.setCell ⟨gb292,0,none⟩ (.string ((rd_T82 l0_1 x14_1).f0))).setCell ⟨gb292,1,none⟩ (.int .i64 ((rd_T82 l0_1 x14_1).f1))).setCell ⟨gb292,2,none⟩ (.bool ((rd_T82 l0_1 x14_1).f2)))) ?hg ?ho ?hn ?hr ?_;(case ho=>rfl);(case hg=>rfl);(case hn=>rfl);(case hr=>first | (go_simp;done) | (go_simp;rfl));intro w12 hw;have n0_ : Aside0 (w12.heap[gb290]? = some (.cells #[.string a0_0,.slice (some ad291) l0_1.length c0_1,.slice A0_2 l0_2.length c0_2,.slice A0_3 l0_3.length c0_3] 35 (0,0))):=⟨(by rw [hw];exact (by exact kW_ BK290))⟩;have n1_ : Aside0 (w12.heap[gb292]? = some (.cells #[.string ((rd_T82 l0_1 x14_1).f0),.int .i64 ((rd_T82 l0_1 x14_1).f1),.bool ((rd_T82 l0_1 x14_1).f2)] 82 (0,0))):=⟨(by rw [hw];exact (by (with_reducible repeat (first | refine kN_ ?_ _ | refine kD_ ?_ | refine kA_ ?_ _));refine kP_ (cs:=#[.string ((rd_T82 l0_1 x14_1).f0),.int .i64 ((rd_T82 l0_1 x14_1).f1),.bool false]) ?_ 2 _ rfl;(with_reducible repeat (first | refine kN_ ?_ _ | refine kD_ ?_ | refine kA_ ?_ _));refine kP_ (cs:=#[.string ((rd_T82 l0_1 x14_1).f0),.int .i64 0,.bool false]) ?_ 1 _ rfl;(with_reducible repeat (first | refine kN_ ?_ _ | refine kD_ ?_ | refine kA_ ?_ _));refine kP_ (cs:=#[.string (⟨#[]⟩ : ByteArray),.int .i64 0,.bool false]) ?_ 0 _ rfl;exact kZ_ BK292))⟩;have n2_ : Aside0 (Below w.heap.size w w12):=⟨(by rw [hw];exact (by exact bZ_ HB))⟩;clear hw BK290 BK292 HB;have BK290:=n0_;have BK292:=n1_;have HB:=n2_;clear n0_ n1_ n2_;have hcz13_0 : w12.cell? ⟨gb290,0,none⟩ = some (.string a0_0):=(kC_ BK290.out 0).trans rfl;have hcz13_1 : w12.cell? ⟨gb290,1,none⟩ = some (.slice (some ad291) l0_1.length c0_1):=(kC_ BK290.out 1).trans rfl;have hcz13_2 : w12.cell? ⟨gb290,2,none⟩ = some (.slice A0_2 l0_2.length c0_2):=(kC_ BK290.out 2).trans rfl;have hcz13_3 : w12.cell? ⟨gb290,3,none⟩ = some (.slice A0_3 l0_3.length c0_3):=(kC_ BK290.out 3).trans rfl;have hfz13_0:=kF_ BK290.out 0;have hfz13_1:=kF_ BK290.out 1;have hfz13_2:=kF_ BK290.out 2;have hfz13_3:=kF_ BK290.out 3;have q14 : (x14_1 : Int) ≤ ((l0_1.length : Int) : Int):=oT_ (by first | (with_reducible assumption) | assumption);obtain ⟨i014,hi014,_,hsz14,_⟩:=info_parts info82;have hroom14 : l0_1.length ≤ c0_1:=HC0_1.out;have hC14 : Kd.C k82 _ (some ad291) l0_1.length l0_1:=HR0_1.out;have hcut14:=cut_to (P:=Tryd.prog) 31 82 .i64 Tryd.underlying31 hi014 (some ad291) l0_1.length c0_1 x14_1 (oT_ (by first | (with_reducible assumption) | assumption)) q14 hroom14;have hr14:=Kd.C_take (m:=(x14_1 : Int).toNat) hC14 (by omega);have hy14 : y293.length = (x14_1 : Int).toNat:=(by rw [Ny293.out,lT_];omega);rw [← Ny293.out] at hr14;rw [← hy14] at hcut14;have HR296:=aM_ hr14;have HC296:=aM_ (show y293.length ≤ c0_1 from by omega);clear hr14 hC14 hroom14 hi014 hsz14;have KY14:=aM_ hy14;clear hy14;replace q14:=eq_true q14))
       (try simp only [Act.put,sI_,sS_,sZ_])
       go_loopg [24] k1 (fun kq v24 w'=>∃ (x24_2 : Int),v24 = .int .i64 x24_2 ∧ Aside0 (impl_twice.l1 kq l0_1 (l0_1.length : Int) x14_1 y293 (y293.length : Int) x24_2 a0_0 l0_1 l0_2 l0_3 ((rd_T82 l0_1 x14_1).f0) ((rd_T82 l0_1 x14_1).f1) ((rd_T82 l0_1 x14_1).f2) = some r) ∧ Aside0 (kq ≤ k1) ∧ Aside0 (w'.heap[gb290]? = some (.cells #[.string a0_0,(.slice (some ad291) l0_1.length c0_1),(.slice A0_2 l0_2.length c0_2),(.slice A0_3 l0_3.length c0_3)] 35 (0,0))) ∧ Aside0 (w'.heap[gb292]? = some (.cells #[.string ((rd_T82 l0_1 x14_1).f0),.int .i64 ((rd_T82 l0_1 x14_1).f1),.bool ((rd_T82 l0_1 x14_1).f2)] 82 (0,0))) ∧ Aside0 (Below w.heap.size w w'))
       case atStart=>exact ⟨(0),(by first | rfl | (simp;done) | (simp [*];done)),H', ⟨Nat.le_refl _⟩,⟨by exact kZ_ BK290⟩,⟨by exact kZ_ BK292⟩,⟨by exact bZ_ HB⟩⟩
       case round =>
        clear H'
        clear c4b0 c5b0 c6b0 c7b0 c8b0 c8b1 q14 hcz11_0 hcz11_1 hcz11_2 hcz13_0 hcz13_1 hcz13_2 hcz13_3 hfz11_0 hfz11_1 hfz11_2 hfz13_0 hfz13_1 hfz13_2 hfz13_3 hx291_0 hx291_1 hx291_2 p291 q291
        obtain ⟨x24_2,rfl,HA,HK2,BK290,BK292,HB⟩:=hrel
        cases gk with
        | zero=>exact absurd HA.out (by simp [impl_twice.l1])
        | succ k2 =>
         have H:=HA.out
         clear HA
         simp only [impl_twice.l1] at H
         by_cases c15 : x24_2 < (y293.length : Int)
         ·rw [if_pos c15] at H
          have c15b0 : decide (x24_2 < (y293.length : Int)) = true:=decide_eq_true c15
          clear c15
          by_cases c16 : 0 ≤ x24_2
          ·rw [if_pos c16] at H
           have c16b0 : decide (0 ≤ x24_2) = true:=decide_eq_true c16
           clear c16
           by_cases c17 : x24_2 < (y293.length : Int)
           ·rw [if_pos c17] at H
            have c17b0 : decide (x24_2 < (y293.length : Int)) = true:=decide_eq_true c17
            clear c17
            by_cases c18 : ((rd_T82 y293 x24_2).f0).toList = ((rd_T82 l0_1 x14_1).f0).toList
            ·rw [if_pos c18] at H
             have c18b0 : (((rd_T82 y293 x24_2).f0).toList == ((rd_T82 l0_1 x14_1).f0).toList) = true:=beq_iff_eq.mpr c18
             have c18b1 : (((rd_T82 y293 x24_2).f0).toList != ((rd_T82 l0_1 x14_1).f0).toList) = false:=bne_eq_false_iff_eq.mpr c18
             clear c18
             obtain rfl:=Option.some.inj H
             have p297 : 0 ≤ (x24_2 : Int):=oT_ (by first | (with_reducible assumption) | assumption)
             have q297 : x24_2 < (y293.length : Int):=oT_ (by first | (with_reducible assumption) | assumption)
             obtain ⟨ad297,e297,hx297_0,hx297_1,hx297_2⟩:=at_T82 HR296.out x24_2 p297 q297
             obtain rfl : ad291 = ad297:=(by injection e297)
             replace hx297_0:=(HB.out.cell (wL_ w _ hx297_0)).trans hx297_0
             replace hx297_1:=(HB.out.cell (wL_ w _ hx297_1)).trans hx297_1
             replace hx297_2:=(HB.out.cell (wL_ w _ hx297_2)).trans hx297_2
             replace p297:=eq_true p297
             replace q297:=eq_true q297
             go_wp2_with (first | ((with_reducible refine gate_dst (N:=6) rfl ?_);refine box_event ?hg (N:=6) ?hd (cs:=#[.string (⟨#[]⟩ : ByteArray),.int .i64 0,.bool false]) (t:=82) ?hr ?_;(case hd=>rfl);(case hg=>rfl);(case hr=>first | (go_simp;done) | (go_simp;rfl));intro gb298 hg w19 hbox hb;have n0_:=aM_ (blk_below (g:=gb290) (o:=.cells #[.string a0_0,.slice (some ad291) l0_1.length c0_1,.slice A0_2 l0_2.length c0_2,.slice A0_3 l0_3.length c0_3] 35 (0,0)) (by exact kZ_ BK290) hb);have n1_:=aM_ (blk_below (g:=gb292) (o:=.cells #[.string ((rd_T82 l0_1 x14_1).f0),.int .i64 ((rd_T82 l0_1 x14_1).f1),.bool ((rd_T82 l0_1 x14_1).f2)] 82 (0,0)) (by exact kZ_ BK292) hb);have n2_:=aM_ (bT_ (by exact bZ_ HB) hb);have n3_:=aM_ (hbox);have n4_:=aM_ ((by rw [hg];exact (bS_ (by exact bZ_ HB)) : w.heap.size ≤ gb298));have n5_:=aM_ ((by rw [hg];exact (bS_ (by exact bZ_ HB)) : w.heap.size ≤ gb298));have n6_:=aM_ ((by rw [hg];exact nN_ (blk_lt (g:=gb290) (o:=.cells #[.string a0_0,.slice (some ad291) l0_1.length c0_1,.slice A0_2 l0_2.length c0_2,.slice A0_3 l0_3.length c0_3] 35 (0,0)) (by exact kZ_ BK290)) : gb290 ≠ gb298));have n7_:=aM_ ((by rw [hg];exact Nat.ne_of_gt (blk_lt (g:=gb290) (o:=.cells #[.string a0_0,.slice (some ad291) l0_1.length c0_1,.slice A0_2 l0_2.length c0_2,.slice A0_3 l0_3.length c0_3] 35 (0,0)) (by exact kZ_ BK290)) : gb298 ≠ gb290));have n8_:=aM_ ((by rw [hg];exact nN_ (blk_lt (g:=gb292) (o:=.cells #[.string ((rd_T82 l0_1 x14_1).f0),.int .i64 ((rd_T82 l0_1 x14_1).f1),.bool ((rd_T82 l0_1 x14_1).f2)] 82 (0,0)) (by exact kZ_ BK292)) : gb292 ≠ gb298));have n9_:=aM_ ((by rw [hg];exact Nat.ne_of_gt (blk_lt (g:=gb292) (o:=.cells #[.string ((rd_T82 l0_1 x14_1).f0),.int .i64 ((rd_T82 l0_1 x14_1).f1),.bool ((rd_T82 l0_1 x14_1).f2)] 82 (0,0)) (by exact kZ_ BK292)) : gb298 ≠ gb292));clear BK290 BK292 HB;have BK290:=n0_;have BK292:=n1_;have HB:=n2_;have BK298:=n3_;have GW298:=n4_;have GE298:=n5_;have NB290_298:=n6_;have NB298_290:=n7_;have NB292_298:=n8_;have NB298_292:=n9_;clear n0_ n1_ n2_ n3_ n4_ n5_ n6_ n7_ n8_ n9_ hb hbox hg;have hnb20:=NB298_290.out;have hnc20:=NB290_298.out;have hnb21:=NB298_292.out;have hnc21:=NB292_298.out;have hcz22_0 : w19.cell? ⟨gb298,0,none⟩ = some (.string (⟨#[]⟩ : ByteArray)):=(kC_ BK298.out 0).trans rfl;have hcz22_1 : w19.cell? ⟨gb298,1,none⟩ = some (.int .i64 0):=(kC_ BK298.out 1).trans rfl;have hcz22_2 : w19.cell? ⟨gb298,2,none⟩ = some (.bool false):=(kC_ BK298.out 2).trans rfl;have hfz22_0:=kF_ BK298.out 0;have hfz22_1:=kF_ BK298.out 1;have hfz22_2:=kF_ BK298.out 2;have hnb23:=NB292_290.out;have hnc23:=NB290_292.out;have hcz24_0 : w19.cell? ⟨gb292,0,none⟩ = some (.string ((rd_T82 l0_1 x14_1).f0)):=(kC_ BK292.out 0).trans rfl;have hcz24_1 : w19.cell? ⟨gb292,1,none⟩ = some (.int .i64 ((rd_T82 l0_1 x14_1).f1)):=(kC_ BK292.out 1).trans rfl;have hcz24_2 : w19.cell? ⟨gb292,2,none⟩ = some (.bool ((rd_T82 l0_1 x14_1).f2)):=(kC_ BK292.out 2).trans rfl;have hfz24_0:=kF_ BK292.out 0;have hfz24_1:=kF_ BK292.out 1;have hfz24_2:=kF_ BK292.out 2))
             go_ret
             exact ⟨by first | rfl | (simp [errW_none,errW_some] <;> rfl) | (simp [*, errW_none,errW_some] <;> rfl),by exact bZ_ HB⟩
            ·rw [if_neg c18] at H
             have c18b0 : (((rd_T82 y293 x24_2).f0).toList == ((rd_T82 l0_1 x14_1).f0).toList) = false:=beq_eq_false_iff_ne.mpr c18
             have c18b1 : (((rd_T82 y293 x24_2).f0).toList != ((rd_T82 l0_1 x14_1).f0).toList) = true:=bne_iff_ne.mpr c18
             have H':=aM_ H
             clear H
             have p297 : 0 ≤ (x24_2 : Int):=oT_ (by first | (with_reducible assumption) | assumption)
             have q297 : x24_2 < (y293.length : Int):=oT_ (by first | (with_reducible assumption) | assumption)
             obtain ⟨ad297,e297,hx297_0,hx297_1,hx297_2⟩:=at_T82 HR296.out x24_2 p297 q297
             obtain rfl : ad291 = ad297:=(by injection e297)
             replace hx297_0:=(HB.out.cell (wL_ w _ hx297_0)).trans hx297_0
             replace hx297_1:=(HB.out.cell (wL_ w _ hx297_1)).trans hx297_1
             replace hx297_2:=(HB.out.cell (wL_ w _ hx297_2)).trans hx297_2
             replace p297:=eq_true p297
             replace q297:=eq_true q297
             go_wp2_with (first | ((with_reducible refine gate_dst (N:=6) rfl ?_);refine box_event ?hg (N:=6) ?hd (cs:=#[.string (⟨#[]⟩ : ByteArray),.int .i64 0,.bool false]) (t:=82) ?hr ?_;(case hd=>rfl);(case hg=>rfl);(case hr=>first | (go_simp;done) | (go_simp;rfl));intro gb298 hg w25 hbox hb;have n0_:=aM_ (blk_below (g:=gb290) (o:=.cells #[.string a0_0,.slice (some ad291) l0_1.length c0_1,.slice A0_2 l0_2.length c0_2,.slice A0_3 l0_3.length c0_3] 35 (0,0)) (by exact kZ_ BK290) hb);have n1_:=aM_ (blk_below (g:=gb292) (o:=.cells #[.string ((rd_T82 l0_1 x14_1).f0),.int .i64 ((rd_T82 l0_1 x14_1).f1),.bool ((rd_T82 l0_1 x14_1).f2)] 82 (0,0)) (by exact kZ_ BK292) hb);have n2_:=aM_ (bT_ (by exact bZ_ HB) hb);have n3_:=aM_ (hbox);have n4_:=aM_ ((by rw [hg];exact (bS_ (by exact bZ_ HB)) : w.heap.size ≤ gb298));have n5_:=aM_ ((by rw [hg];exact (bS_ (by exact bZ_ HB)) : w.heap.size ≤ gb298));have n6_:=aM_ ((by rw [hg];exact nN_ (blk_lt (g:=gb290) (o:=.cells #[.string a0_0,.slice (some ad291) l0_1.length c0_1,.slice A0_2 l0_2.length c0_2,.slice A0_3 l0_3.length c0_3] 35 (0,0)) (by exact kZ_ BK290)) : gb290 ≠ gb298));have n7_:=aM_ ((by rw [hg];exact Nat.ne_of_gt (blk_lt (g:=gb290) (o:=.cells #[.string a0_0,.slice (some ad291) l0_1.length c0_1,.slice A0_2 l0_2.length c0_2,.slice A0_3 l0_3.length c0_3] 35 (0,0)) (by exact kZ_ BK290)) : gb298 ≠ gb290));have n8_:=aM_ ((by rw [hg];exact nN_ (blk_lt (g:=gb292) (o:=.cells #[.string ((rd_T82 l0_1 x14_1).f0),.int .i64 ((rd_T82 l0_1 x14_1).f1),.bool ((rd_T82 l0_1 x14_1).f2)] 82 (0,0)) (by exact kZ_ BK292)) : gb292 ≠ gb298));have n9_:=aM_ ((by rw [hg];exact Nat.ne_of_gt (blk_lt (g:=gb292) (o:=.cells #[.string ((rd_T82 l0_1 x14_1).f0),.int .i64 ((rd_T82 l0_1 x14_1).f1),.bool ((rd_T82 l0_1 x14_1).f2)] 82 (0,0)) (by exact kZ_ BK292)) : gb298 ≠ gb292));clear BK290 BK292 HB;have BK290:=n0_;have BK292:=n1_;have HB:=n2_;have BK298:=n3_;have GW298:=n4_;have GE298:=n5_;have NB290_298:=n6_;have NB298_290:=n7_;have NB292_298:=n8_;have NB298_292:=n9_;clear n0_ n1_ n2_ n3_ n4_ n5_ n6_ n7_ n8_ n9_ hb hbox hg;have hnb26:=NB298_290.out;have hnc26:=NB290_298.out;have hnb27:=NB298_292.out;have hnc27:=NB292_298.out;have hcz28_0 : w25.cell? ⟨gb298,0,none⟩ = some (.string (⟨#[]⟩ : ByteArray)):=(kC_ BK298.out 0).trans rfl;have hcz28_1 : w25.cell? ⟨gb298,1,none⟩ = some (.int .i64 0):=(kC_ BK298.out 1).trans rfl;have hcz28_2 : w25.cell? ⟨gb298,2,none⟩ = some (.bool false):=(kC_ BK298.out 2).trans rfl;have hfz28_0:=kF_ BK298.out 0;have hfz28_1:=kF_ BK298.out 1;have hfz28_2:=kF_ BK298.out 2;have hnb29:=NB292_290.out;have hnc29:=NB290_292.out;have hcz30_0 : w25.cell? ⟨gb292,0,none⟩ = some (.string ((rd_T82 l0_1 x14_1).f0)):=(kC_ BK292.out 0).trans rfl;have hcz30_1 : w25.cell? ⟨gb292,1,none⟩ = some (.int .i64 ((rd_T82 l0_1 x14_1).f1)):=(kC_ BK292.out 1).trans rfl;have hcz30_2 : w25.cell? ⟨gb292,2,none⟩ = some (.bool ((rd_T82 l0_1 x14_1).f2)):=(kC_ BK292.out 2).trans rfl;have hfz30_0:=kF_ BK292.out 0;have hfz30_1:=kF_ BK292.out 1;have hfz30_2:=kF_ BK292.out 2))
             go_roundg k2
             case measure=>have:=HK1.out;have:=HK2.out;omega
             case rel=>exact ⟨(wrap64 (x24_2 + 1)),(by first | rfl | (simp;done) | (simp [*];done)),H', ⟨by have:=HK1.out;have:=HK2.out;omega⟩,⟨by exact kW_ BK290⟩,⟨by exact kW_ BK292⟩,⟨by exact bZ_ HB⟩⟩
           ·rw [if_neg c17] at H
            exact absurd H (by simp)
          ·rw [if_neg c16] at H
           exact absurd H (by simp)
         ·rw [if_neg c15] at H
          have c15b0 : decide (x24_2 < (y293.length : Int)) = false:=decide_eq_false c15
          clear c15
          have H':=aM_ H
          clear H
          go_wp2
          go_roundg k2
          case measure=>have:=HK1.out;have:=HK2.out;omega
          case rel=>exact ⟨(wrap64 (x14_1 + 1)),(by first | rfl | (simp;done) | (simp [*];done)),H', ⟨by have:=HK1.out;have:=HK2.out;omega⟩,⟨by exact kZ_ BK290⟩,⟨by exact bZ_ HB⟩⟩
      ·rw [if_neg c8] at H
       exact absurd H (by simp)
     ·rw [if_neg c6] at H
      exact absurd H (by simp)
    ·rw [if_neg c5] at H
     exact absurd H (by simp)
   ·rw [if_neg c4] at H
    have c4b0 : decide (x14_1 < (l0_1.length : Int)) = false:=decide_eq_false c4
    clear c4
    have H':=aM_ H
    clear H
    have hcz31_0 : wr.cell? ⟨gb290,0,none⟩ = some (.string a0_0):=(kC_ BK290.out 0).trans rfl
    have hcz31_1 : wr.cell? ⟨gb290,1,none⟩ = some (.slice A0_1 l0_1.length c0_1):=(kC_ BK290.out 1).trans rfl
    have hcz31_2 : wr.cell? ⟨gb290,2,none⟩ = some (.slice A0_2 l0_2.length c0_2):=(kC_ BK290.out 2).trans rfl
    have hcz31_3 : wr.cell? ⟨gb290,3,none⟩ = some (.slice A0_3 l0_3.length c0_3):=(kC_ BK290.out 3).trans rfl
    have hfz31_0:=kF_ BK290.out 0
    have hfz31_1:=kF_ BK290.out 1
    have hfz31_2:=kF_ BK290.out 2
    have hfz31_3:=kF_ BK290.out 3
    go_wp2
    (try simp only [Act.put,sI_,sS_,sZ_])
    go_loopg [38] k1 (fun kq v38 w'=>∃ (x38_2 : Int),v38 = .int .i64 x38_2 ∧ Aside0 (impl_twice.l2 kq l0_3 (l0_3.length : Int) x38_2 a0_0 l0_1 l0_2 l0_3 = some r) ∧ Aside0 (kq ≤ k1) ∧ Aside0 (w'.heap[gb290]? = some (.cells #[.string a0_0,(.slice A0_1 l0_1.length c0_1),(.slice A0_2 l0_2.length c0_2),(.slice A0_3 l0_3.length c0_3)] 35 (0,0))) ∧ Aside0 (Below w.heap.size w w'))
    case atStart=>exact ⟨(0),(by first | rfl | (simp;done) | (simp [*];done)),H', ⟨Nat.le_refl _⟩,⟨by exact kZ_ BK290⟩,⟨by exact bZ_ HB⟩⟩
    case round =>
     clear H'
     clear c4b0 hcz31_0 hcz31_1 hcz31_2 hcz31_3 hfz31_0 hfz31_1 hfz31_2 hfz31_3
     obtain ⟨x38_2,rfl,HA,HK2,BK290,HB⟩:=hrel
     cases gk with
     | zero=>exact absurd HA.out (by simp [impl_twice.l2])
     | succ k2 =>
      have H:=HA.out
      clear HA
      simp only [impl_twice.l2] at H
      by_cases c32 : x38_2 < (l0_3.length : Int)
      ·rw [if_pos c32] at H
       have c32b0 : decide (x38_2 < (l0_3.length : Int)) = true:=decide_eq_true c32
       clear c32
       by_cases c33 : 0 ≤ x38_2
       ·rw [if_pos c33] at H
        have c33b0 : decide (0 ≤ x38_2) = true:=decide_eq_true c33
        clear c33
        by_cases c34 : x38_2 < (l0_3.length : Int)
        ·rw [if_pos c34] at H
         have c34b0 : decide (x38_2 < (l0_3.length : Int)) = true:=decide_eq_true c34
         clear c34
         have c35b0:=eq_true (oT_ (by first | (with_reducible assumption) | assumption) : 0 ≤ x38_2)
         by_cases c36 : x38_2 ≤ (l0_3.length : Int)
         ·rw [if_pos c36] at H
          have c36b0:=eq_true c36
          have c36b1 : decide (x38_2 ≤ (l0_3.length : Int)) = true:=decide_eq_true c36
          clear c36
          obtain ⟨y301,hy301⟩ : ∃ y_ : List (S69),y_ = (l0_3.take (x38_2 : Int).toNat):=⟨_,rfl⟩
          replace H : (impl_twice.l3 k2 l0_3 (l0_3.length : Int) x38_2 y301 (y301.length : Int) 0 a0_0 l0_1 l0_2 l0_3 ((rd_T69 l0_3 x38_2).f0) ((rd_T69 l0_3 x38_2).f1) ((rd_T69 l0_3 x38_2).f2)) = some r:=by first | (rw [hy301];with_reducible exact H) | (have H2_:=(Option.bind_some _ _).symm.trans H;rw [hy301];with_reducible exact H2_) | (have H2_:=(Option.bind_some _ _).symm.trans H;with_reducible exact H2_) | with_reducible exact H | (rw [hy301];exact H) | exact H
          have Ny301:=aM_ hy301
          clear hy301
          have H':=aM_ H
          clear H
          have p299 : 0 ≤ (x38_2 : Int):=oT_ (by first | (with_reducible assumption) | assumption)
          have q299 : x38_2 < (l0_3.length : Int):=oT_ (by first | (with_reducible assumption) | assumption)
          obtain ⟨ad299,A299_2,c299_2,e299,hx299_0,hx299_1,hx299_2,hl299_2,hi299_2⟩:=at_T69 HR0_3.out x38_2 p299 q299
          cases e299
          replace hx299_0:=(HB.out.cell (wL_ w _ hx299_0)).trans hx299_0
          replace hx299_1:=(HB.out.cell (wL_ w _ hx299_1)).trans hx299_1
          replace hx299_2:=(HB.out.cell (wL_ w _ hx299_2)).trans hx299_2
          have HR299_2:=aM_ hi299_2
          have HC299_2:=aM_ hl299_2
          clear hi299_2 hl299_2
          replace p299:=eq_true p299
          replace q299:=eq_true q299
          go_wp2_with (first | ((with_reducible refine gate_dst (N:=8) rfl ?_);refine box_event ?hg (N:=8) ?hd (cs:=#[.string (⟨#[]⟩ : ByteArray),.bool false,.slice none 0 0]) (t:=69) ?hr ?_;(case hd=>rfl);(case hg=>rfl);(case hr=>first | (go_simp;done) | (go_simp;rfl));intro gb300 hg w37 hbox hb;have n0_:=aM_ (blk_below (g:=gb290) (o:=.cells #[.string a0_0,.slice A0_1 l0_1.length c0_1,.slice A0_2 l0_2.length c0_2,.slice (some ad299) l0_3.length c0_3] 35 (0,0)) (by exact kZ_ BK290) hb);have n1_:=aM_ (bT_ (by exact bZ_ HB) hb);have n2_:=aM_ (hbox);have n3_:=aM_ ((by rw [hg];exact (bS_ (by exact bZ_ HB)) : w.heap.size ≤ gb300));have n4_:=aM_ ((by rw [hg];exact (bS_ (by exact bZ_ HB)) : w.heap.size ≤ gb300));have n5_:=aM_ ((by rw [hg];exact nN_ (blk_lt (g:=gb290) (o:=.cells #[.string a0_0,.slice A0_1 l0_1.length c0_1,.slice A0_2 l0_2.length c0_2,.slice (some ad299) l0_3.length c0_3] 35 (0,0)) (by exact kZ_ BK290)) : gb290 ≠ gb300));have n6_:=aM_ ((by rw [hg];exact Nat.ne_of_gt (blk_lt (g:=gb290) (o:=.cells #[.string a0_0,.slice A0_1 l0_1.length c0_1,.slice A0_2 l0_2.length c0_2,.slice (some ad299) l0_3.length c0_3] 35 (0,0)) (by exact kZ_ BK290)) : gb300 ≠ gb290));clear BK290 HB;have BK290:=n0_;have HB:=n1_;have BK300:=n2_;have GW300:=n3_;have GE300:=n4_;have NB290_300:=n5_;have NB300_290:=n6_;clear n0_ n1_ n2_ n3_ n4_ n5_ n6_ hb hbox hg;have hnb38:=NB300_290.out;have hnc38:=NB290_300.out;have hcz39_0 : w37.cell? ⟨gb300,0,none⟩ = some (.string (⟨#[]⟩ : ByteArray)):=(kC_ BK300.out 0).trans rfl;have hcz39_1 : w37.cell? ⟨gb300,1,none⟩ = some (.bool false):=(kC_ BK300.out 1).trans rfl;have hcz39_2 : w37.cell? ⟨gb300,2,none⟩ = some (.slice none 0 0):=(kC_ BK300.out 2).trans rfl;have hfz39_0:=kF_ BK300.out 0;have hfz39_1:=kF_ BK300.out 1;have hfz39_2:=kF_ BK300.out 2) | ((with_reducible refine gate_store (t:=69) (p:=8) rfl ?_);refine store_event (t:=69) (p:=8) (v:=?vo_w40) (w1:=(((w37.setCell ⟨gb300,0,none⟩ (.string ((rd_T69 l0_3 x38_2).f0))).setCell ⟨gb300,1,none⟩ (.bool ((rd_T69 l0_3 x38_2).f1))).setCell ⟨gb300,2,none⟩ (.slice A299_2 ((rd_T69 l0_3 x38_2).f2).length c299_2))) ?hg ?ho ?hn ?hr ?_;(case ho=>rfl);(case hg=>rfl);(case hn=>rfl);(case hr=>first | (go_simp;done) | (go_simp;rfl));intro w40 hw;have n0_ : Aside0 (w40.heap[gb290]? = some (.cells #[.string a0_0,.slice A0_1 l0_1.length c0_1,.slice A0_2 l0_2.length c0_2,.slice (some ad299) l0_3.length c0_3] 35 (0,0))):=⟨(by rw [hw];exact (by exact kW_ BK290))⟩;have n1_ : Aside0 (w40.heap[gb300]? = some (.cells #[.string ((rd_T69 l0_3 x38_2).f0),.bool ((rd_T69 l0_3 x38_2).f1),.slice A299_2 ((rd_T69 l0_3 x38_2).f2).length c299_2] 69 (0,0))):=⟨(by rw [hw];exact (by (with_reducible repeat (first | refine kN_ ?_ _ | refine kD_ ?_ | refine kA_ ?_ _));refine kP_ (cs:=#[.string ((rd_T69 l0_3 x38_2).f0),.bool ((rd_T69 l0_3 x38_2).f1),.slice none 0 0]) ?_ 2 _ rfl;(with_reducible repeat (first | refine kN_ ?_ _ | refine kD_ ?_ | refine kA_ ?_ _));refine kP_ (cs:=#[.string ((rd_T69 l0_3 x38_2).f0),.bool false,.slice none 0 0]) ?_ 1 _ rfl;(with_reducible repeat (first | refine kN_ ?_ _ | refine kD_ ?_ | refine kA_ ?_ _));refine kP_ (cs:=#[.string (⟨#[]⟩ : ByteArray),.bool false,.slice none 0 0]) ?_ 0 _ rfl;exact kZ_ BK300))⟩;have n2_ : Aside0 (Below w.heap.size w w40):=⟨(by rw [hw];exact (by exact bZ_ HB))⟩;clear hw BK290 BK300 HB;have BK290:=n0_;have BK300:=n1_;have HB:=n2_;clear n0_ n1_ n2_;have hcz41_0 : w40.cell? ⟨gb290,0,none⟩ = some (.string a0_0):=(kC_ BK290.out 0).trans rfl;have hcz41_1 : w40.cell? ⟨gb290,1,none⟩ = some (.slice A0_1 l0_1.length c0_1):=(kC_ BK290.out 1).trans rfl;have hcz41_2 : w40.cell? ⟨gb290,2,none⟩ = some (.slice A0_2 l0_2.length c0_2):=(kC_ BK290.out 2).trans rfl;have hcz41_3 : w40.cell? ⟨gb290,3,none⟩ = some (.slice (some ad299) l0_3.length c0_3):=(kC_ BK290.out 3).trans rfl;have hfz41_0:=kF_ BK290.out 0;have hfz41_1:=kF_ BK290.out 1;have hfz41_2:=kF_ BK290.out 2;have hfz41_3:=kF_ BK290.out 3;have q42 : (x38_2 : Int) ≤ ((l0_3.length : Int) : Int):=oT_ (by first | (with_reducible assumption) | assumption);obtain ⟨i042,hi042,_,hsz42,_⟩:=info_parts info69;have hroom42 : l0_3.length ≤ c0_3:=HC0_3.out;have hC42 : Kd.C k69 _ (some ad299) l0_3.length l0_3:=HR0_3.out;have hcut42:=cut_to (P:=Tryd.prog) 33 69 .i64 Tryd.underlying33 hi042 (some ad299) l0_3.length c0_3 x38_2 (oT_ (by first | (with_reducible assumption) | assumption)) q42 hroom42;have hr42:=Kd.C_take (m:=(x38_2 : Int).toNat) hC42 (by omega);have hy42 : y301.length = (x38_2 : Int).toNat:=(by rw [Ny301.out,lT_];omega);rw [← Ny301.out] at hr42;rw [← hy42] at hcut42;have HR304:=aM_ hr42;have HC304:=aM_ (show y301.length ≤ c0_3 from by omega);clear hr42 hC42 hroom42 hi042 hsz42;have KY42:=aM_ hy42;clear hy42;replace q42:=eq_true q42))
          (try simp only [Act.put,sI_,sS_,sZ_])
          go_loopg [48] k2 (fun kq v48 w'=>∃ (x48_3 : Int),v48 = .int .i64 x48_3 ∧ Aside0 (impl_twice.l3 kq l0_3 (l0_3.length : Int) x38_2 y301 (y301.length : Int) x48_3 a0_0 l0_1 l0_2 l0_3 ((rd_T69 l0_3 x38_2).f0) ((rd_T69 l0_3 x38_2).f1) ((rd_T69 l0_3 x38_2).f2) = some r) ∧ Aside0 (kq ≤ k2) ∧ Aside0 (w'.heap[gb290]? = some (.cells #[.string a0_0,(.slice A0_1 l0_1.length c0_1),(.slice A0_2 l0_2.length c0_2),(.slice (some ad299) l0_3.length c0_3)] 35 (0,0))) ∧ Aside0 (w'.heap[gb300]? = some (.cells #[.string ((rd_T69 l0_3 x38_2).f0),.bool ((rd_T69 l0_3 x38_2).f1),(.slice A299_2 ((rd_T69 l0_3 x38_2).f2).length c299_2)] 69 (0,0))) ∧ Aside0 (Below w.heap.size w w'))
          case atStart=>exact ⟨(0),(by first | rfl | (simp;done) | (simp [*];done)),H', ⟨Nat.le_refl _⟩,⟨by exact kZ_ BK290⟩,⟨by exact kZ_ BK300⟩,⟨by exact bZ_ HB⟩⟩
          case round =>
           clear H'
           clear c32b0 c33b0 c34b0 c35b0 c36b0 c36b1 q42 hcz39_0 hcz39_1 hcz39_2 hcz41_0 hcz41_1 hcz41_2 hcz41_3 hfz39_0 hfz39_1 hfz39_2 hfz41_0 hfz41_1 hfz41_2 hfz41_3 hx299_0 hx299_1 hx299_2 p299 q299
           obtain ⟨x48_3,rfl,HA,HK3,BK290,BK300,HB⟩:=hrel
           cases gk with
           | zero=>exact absurd HA.out (by simp [impl_twice.l3])
           | succ k3 =>
            have H:=HA.out
            clear HA
            simp only [impl_twice.l3] at H
            by_cases c43 : x48_3 < (y301.length : Int)
            ·rw [if_pos c43] at H
             have c43b0 : decide (x48_3 < (y301.length : Int)) = true:=decide_eq_true c43
             clear c43
             by_cases c44 : 0 ≤ x48_3
             ·rw [if_pos c44] at H
              have c44b0 : decide (0 ≤ x48_3) = true:=decide_eq_true c44
              clear c44
              by_cases c45 : x48_3 < (y301.length : Int)
              ·rw [if_pos c45] at H
               have c45b0 : decide (x48_3 < (y301.length : Int)) = true:=decide_eq_true c45
               clear c45
               by_cases c46 : ((rd_T69 y301 x48_3).f0).toList = ((rd_T69 l0_3 x38_2).f0).toList
               ·rw [if_pos c46] at H
                have c46b0 : (((rd_T69 y301 x48_3).f0).toList == ((rd_T69 l0_3 x38_2).f0).toList) = true:=beq_iff_eq.mpr c46
                have c46b1 : (((rd_T69 y301 x48_3).f0).toList != ((rd_T69 l0_3 x38_2).f0).toList) = false:=bne_eq_false_iff_eq.mpr c46
                clear c46
                obtain rfl:=Option.some.inj H
                have p305 : 0 ≤ (x48_3 : Int):=oT_ (by first | (with_reducible assumption) | assumption)
                have q305 : x48_3 < (y301.length : Int):=oT_ (by first | (with_reducible assumption) | assumption)
                obtain ⟨ad305,A305_2,c305_2,e305,hx305_0,hx305_1,hx305_2,hl305_2,hi305_2⟩:=at_T69 HR304.out x48_3 p305 q305
                obtain rfl : ad299 = ad305:=(by injection e305)
                replace hx305_0:=(HB.out.cell (wL_ w _ hx305_0)).trans hx305_0
                replace hx305_1:=(HB.out.cell (wL_ w _ hx305_1)).trans hx305_1
                replace hx305_2:=(HB.out.cell (wL_ w _ hx305_2)).trans hx305_2
                have HR305_2:=aM_ hi305_2
                have HC305_2:=aM_ hl305_2
                clear hi305_2 hl305_2
                replace p305:=eq_true p305
                replace q305:=eq_true q305
                go_wp2_with (first | ((with_reducible refine gate_dst (N:=10) rfl ?_);refine box_event ?hg (N:=10) ?hd (cs:=#[.string (⟨#[]⟩ : ByteArray),.bool false,.slice none 0 0]) (t:=69) ?hr ?_;(case hd=>rfl);(case hg=>rfl);(case hr=>first | (go_simp;done) | (go_simp;rfl));intro gb306 hg w47 hbox hb;have n0_:=aM_ (blk_below (g:=gb290) (o:=.cells #[.string a0_0,.slice A0_1 l0_1.length c0_1,.slice A0_2 l0_2.length c0_2,.slice (some ad299) l0_3.length c0_3] 35 (0,0)) (by exact kZ_ BK290) hb);have n1_:=aM_ (blk_below (g:=gb300) (o:=.cells #[.string ((rd_T69 l0_3 x38_2).f0),.bool ((rd_T69 l0_3 x38_2).f1),.slice A299_2 ((rd_T69 l0_3 x38_2).f2).length c299_2] 69 (0,0)) (by exact kZ_ BK300) hb);have n2_:=aM_ (bT_ (by exact bZ_ HB) hb);have n3_:=aM_ (hbox);have n4_:=aM_ ((by rw [hg];exact (bS_ (by exact bZ_ HB)) : w.heap.size ≤ gb306));have n5_:=aM_ ((by rw [hg];exact (bS_ (by exact bZ_ HB)) : w.heap.size ≤ gb306));have n6_:=aM_ ((by rw [hg];exact nN_ (blk_lt (g:=gb290) (o:=.cells #[.string a0_0,.slice A0_1 l0_1.length c0_1,.slice A0_2 l0_2.length c0_2,.slice (some ad299) l0_3.length c0_3] 35 (0,0)) (by exact kZ_ BK290)) : gb290 ≠ gb306));have n7_:=aM_ ((by rw [hg];exact Nat.ne_of_gt (blk_lt (g:=gb290) (o:=.cells #[.string a0_0,.slice A0_1 l0_1.length c0_1,.slice A0_2 l0_2.length c0_2,.slice (some ad299) l0_3.length c0_3] 35 (0,0)) (by exact kZ_ BK290)) : gb306 ≠ gb290));have n8_:=aM_ ((by rw [hg];exact nN_ (blk_lt (g:=gb300) (o:=.cells #[.string ((rd_T69 l0_3 x38_2).f0),.bool ((rd_T69 l0_3 x38_2).f1),.slice A299_2 ((rd_T69 l0_3 x38_2).f2).length c299_2] 69 (0,0)) (by exact kZ_ BK300)) : gb300 ≠ gb306));have n9_:=aM_ ((by rw [hg];exact Nat.ne_of_gt (blk_lt (g:=gb300) (o:=.cells #[.string ((rd_T69 l0_3 x38_2).f0),.bool ((rd_T69 l0_3 x38_2).f1),.slice A299_2 ((rd_T69 l0_3 x38_2).f2).length c299_2] 69 (0,0)) (by exact kZ_ BK300)) : gb306 ≠ gb300));clear BK290 BK300 HB;have BK290:=n0_;have BK300:=n1_;have HB:=n2_;have BK306:=n3_;have GW306:=n4_;have GE306:=n5_;have NB290_306:=n6_;have NB306_290:=n7_;have NB300_306:=n8_;have NB306_300:=n9_;clear n0_ n1_ n2_ n3_ n4_ n5_ n6_ n7_ n8_ n9_ hb hbox hg;have hnb48:=NB306_290.out;have hnc48:=NB290_306.out;have hnb49:=NB306_300.out;have hnc49:=NB300_306.out;have hcz50_0 : w47.cell? ⟨gb306,0,none⟩ = some (.string (⟨#[]⟩ : ByteArray)):=(kC_ BK306.out 0).trans rfl;have hcz50_1 : w47.cell? ⟨gb306,1,none⟩ = some (.bool false):=(kC_ BK306.out 1).trans rfl;have hcz50_2 : w47.cell? ⟨gb306,2,none⟩ = some (.slice none 0 0):=(kC_ BK306.out 2).trans rfl;have hfz50_0:=kF_ BK306.out 0;have hfz50_1:=kF_ BK306.out 1;have hfz50_2:=kF_ BK306.out 2;have hnb51:=NB300_290.out;have hnc51:=NB290_300.out;have hcz52_0 : w47.cell? ⟨gb300,0,none⟩ = some (.string ((rd_T69 l0_3 x38_2).f0)):=(kC_ BK300.out 0).trans rfl;have hcz52_1 : w47.cell? ⟨gb300,1,none⟩ = some (.bool ((rd_T69 l0_3 x38_2).f1)):=(kC_ BK300.out 1).trans rfl;have hcz52_2 : w47.cell? ⟨gb300,2,none⟩ = some (.slice A299_2 ((rd_T69 l0_3 x38_2).f2).length c299_2):=(kC_ BK300.out 2).trans rfl;have hfz52_0:=kF_ BK300.out 0;have hfz52_1:=kF_ BK300.out 1;have hfz52_2:=kF_ BK300.out 2))
                go_ret
                exact ⟨by first | rfl | (simp [errW_none,errW_some] <;> rfl) | (simp [*, errW_none,errW_some] <;> rfl),by exact bZ_ HB⟩
               ·rw [if_neg c46] at H
                have c46b0 : (((rd_T69 y301 x48_3).f0).toList == ((rd_T69 l0_3 x38_2).f0).toList) = false:=beq_eq_false_iff_ne.mpr c46
                have c46b1 : (((rd_T69 y301 x48_3).f0).toList != ((rd_T69 l0_3 x38_2).f0).toList) = true:=bne_iff_ne.mpr c46
                have H':=aM_ H
                clear H
                have p305 : 0 ≤ (x48_3 : Int):=oT_ (by first | (with_reducible assumption) | assumption)
                have q305 : x48_3 < (y301.length : Int):=oT_ (by first | (with_reducible assumption) | assumption)
                obtain ⟨ad305,A305_2,c305_2,e305,hx305_0,hx305_1,hx305_2,hl305_2,hi305_2⟩:=at_T69 HR304.out x48_3 p305 q305
                obtain rfl : ad299 = ad305:=(by injection e305)
                replace hx305_0:=(HB.out.cell (wL_ w _ hx305_0)).trans hx305_0
                replace hx305_1:=(HB.out.cell (wL_ w _ hx305_1)).trans hx305_1
                replace hx305_2:=(HB.out.cell (wL_ w _ hx305_2)).trans hx305_2
                have HR305_2:=aM_ hi305_2
                have HC305_2:=aM_ hl305_2
                clear hi305_2 hl305_2
                replace p305:=eq_true p305
                replace q305:=eq_true q305
                go_wp2_with (first | ((with_reducible refine gate_dst (N:=10) rfl ?_);refine box_event ?hg (N:=10) ?hd (cs:=#[.string (⟨#[]⟩ : ByteArray),.bool false,.slice none 0 0]) (t:=69) ?hr ?_;(case hd=>rfl);(case hg=>rfl);(case hr=>first | (go_simp;done) | (go_simp;rfl));intro gb306 hg w53 hbox hb;have n0_:=aM_ (blk_below (g:=gb290) (o:=.cells #[.string a0_0,.slice A0_1 l0_1.length c0_1,.slice A0_2 l0_2.length c0_2,.slice (some ad299) l0_3.length c0_3] 35 (0,0)) (by exact kZ_ BK290) hb);have n1_:=aM_ (blk_below (g:=gb300) (o:=.cells #[.string ((rd_T69 l0_3 x38_2).f0),.bool ((rd_T69 l0_3 x38_2).f1),.slice A299_2 ((rd_T69 l0_3 x38_2).f2).length c299_2] 69 (0,0)) (by exact kZ_ BK300) hb);have n2_:=aM_ (bT_ (by exact bZ_ HB) hb);have n3_:=aM_ (hbox);have n4_:=aM_ ((by rw [hg];exact (bS_ (by exact bZ_ HB)) : w.heap.size ≤ gb306));have n5_:=aM_ ((by rw [hg];exact (bS_ (by exact bZ_ HB)) : w.heap.size ≤ gb306));have n6_:=aM_ ((by rw [hg];exact nN_ (blk_lt (g:=gb290) (o:=.cells #[.string a0_0,.slice A0_1 l0_1.length c0_1,.slice A0_2 l0_2.length c0_2,.slice (some ad299) l0_3.length c0_3] 35 (0,0)) (by exact kZ_ BK290)) : gb290 ≠ gb306));have n7_:=aM_ ((by rw [hg];exact Nat.ne_of_gt (blk_lt (g:=gb290) (o:=.cells #[.string a0_0,.slice A0_1 l0_1.length c0_1,.slice A0_2 l0_2.length c0_2,.slice (some ad299) l0_3.length c0_3] 35 (0,0)) (by exact kZ_ BK290)) : gb306 ≠ gb290));have n8_:=aM_ ((by rw [hg];exact nN_ (blk_lt (g:=gb300) (o:=.cells #[.string ((rd_T69 l0_3 x38_2).f0),.bool ((rd_T69 l0_3 x38_2).f1),.slice A299_2 ((rd_T69 l0_3 x38_2).f2).length c299_2] 69 (0,0)) (by exact kZ_ BK300)) : gb300 ≠ gb306));have n9_:=aM_ ((by rw [hg];exact Nat.ne_of_gt (blk_lt (g:=gb300) (o:=.cells #[.string ((rd_T69 l0_3 x38_2).f0),.bool ((rd_T69 l0_3 x38_2).f1),.slice A299_2 ((rd_T69 l0_3 x38_2).f2).length c299_2] 69 (0,0)) (by exact kZ_ BK300)) : gb306 ≠ gb300));clear BK290 BK300 HB;have BK290:=n0_;have BK300:=n1_;have HB:=n2_;have BK306:=n3_;have GW306:=n4_;have GE306:=n5_;have NB290_306:=n6_;have NB306_290:=n7_;have NB300_306:=n8_;have NB306_300:=n9_;clear n0_ n1_ n2_ n3_ n4_ n5_ n6_ n7_ n8_ n9_ hb hbox hg;have hnb54:=NB306_290.out;have hnc54:=NB290_306.out;have hnb55:=NB306_300.out;have hnc55:=NB300_306.out;have hcz56_0 : w53.cell? ⟨gb306,0,none⟩ = some (.string (⟨#[]⟩ : ByteArray)):=(kC_ BK306.out 0).trans rfl;have hcz56_1 : w53.cell? ⟨gb306,1,none⟩ = some (.bool false):=(kC_ BK306.out 1).trans rfl;have hcz56_2 : w53.cell? ⟨gb306,2,none⟩ = some (.slice none 0 0):=(kC_ BK306.out 2).trans rfl;have hfz56_0:=kF_ BK306.out 0;have hfz56_1:=kF_ BK306.out 1;have hfz56_2:=kF_ BK306.out 2;have hnb57:=NB300_290.out;have hnc57:=NB290_300.out;have hcz58_0 : w53.cell? ⟨gb300,0,none⟩ = some (.string ((rd_T69 l0_3 x38_2).f0)):=(kC_ BK300.out 0).trans rfl;have hcz58_1 : w53.cell? ⟨gb300,1,none⟩ = some (.bool ((rd_T69 l0_3 x38_2).f1)):=(kC_ BK300.out 1).trans rfl;have hcz58_2 : w53.cell? ⟨gb300,2,none⟩ = some (.slice A299_2 ((rd_T69 l0_3 x38_2).f2).length c299_2):=(kC_ BK300.out 2).trans rfl;have hfz58_0:=kF_ BK300.out 0;have hfz58_1:=kF_ BK300.out 1;have hfz58_2:=kF_ BK300.out 2))
                go_roundg k3
                case measure=>have:=HK1.out;have:=HK2.out;have:=HK3.out;omega
                case rel=>exact ⟨(wrap64 (x48_3 + 1)),(by first | rfl | (simp;done) | (simp [*];done)),H', ⟨by have:=HK1.out;have:=HK2.out;have:=HK3.out;omega⟩,⟨by exact kW_ BK290⟩,⟨by exact kW_ BK300⟩,⟨by exact bZ_ HB⟩⟩
              ·rw [if_neg c45] at H
               exact absurd H (by simp)
             ·rw [if_neg c44] at H
              exact absurd H (by simp)
            ·rw [if_neg c43] at H
             have c43b0 : decide (x48_3 < (y301.length : Int)) = false:=decide_eq_false c43
             clear c43
             have H':=aM_ H
             clear H
             go_wp2
             go_roundg k3
             case measure=>have:=HK1.out;have:=HK2.out;have:=HK3.out;omega
             case rel=>exact ⟨(wrap64 (x38_2 + 1)),(by first | rfl | (simp;done) | (simp [*];done)),H', ⟨by have:=HK1.out;have:=HK2.out;have:=HK3.out;omega⟩,⟨by exact kZ_ BK290⟩,⟨by exact bZ_ HB⟩⟩
         ·rw [if_neg c36] at H
          exact absurd H (by simp)
        ·rw [if_neg c34] at H
         exact absurd H (by simp)
       ·rw [if_neg c33] at H
        exact absurd H (by simp)
      ·rw [if_neg c32] at H
       have c32b0 : decide (x38_2 < (l0_3.length : Int)) = false:=decide_eq_false c32
       clear c32
       obtain rfl:=Option.some.inj H
       go_wp2
       go_ret
       exact ⟨by first | rfl | (simp [errW_none,errW_some] <;> rfl) | (simp [*, errW_none,errW_some] <;> rfl),by exact bZ_ HB⟩
end Go.Proofs.YtipehkeabnfngaaDoor.PFnExactDefsText
