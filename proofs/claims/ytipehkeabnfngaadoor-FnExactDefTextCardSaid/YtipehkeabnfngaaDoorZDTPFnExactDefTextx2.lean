import Derived.Test.YtipehkeabnfngaaDoorZDTPFnExactDefTextx0
namespace Go.Proofs.YtipehkeabnfngaaDoor.PFnExactDefText
open Go.RowKit Go.Proofs.YtipehkeabnfngaaDoorW.PrintWords Go.Proofs.YtipehkeabnfngaaDoorW.PrintLast Go.Proofs.YtipehkeabnfngaaDoorW.PrintMore Go.Proofs.YtipehkeabnfngaaDoor.Xtra
attribute [local go_sem] max2_int min2_int max_two min_two max_three min_three max_four min_four str_leq str_gtr str_geq setCell_drewN cell_set2 cell_set3   -- for this text's walks alone
set_option linter.unusedVariables false
set_option linter.unusedSimpArgs false
mutual
def impl_twice.l0 : Nat → List (S82) → Int → Int → ByteArray → List (S82) → List (S85) → List (S69) → Option (Bool)
 | 0,_,_,_,_,_,_,_=>none
 | k + 1,x12,x13,x14,x118000,x118001,x118002,x118003=>if x14 < x13 then (if 0 ≤ x14 then (if x14 < (x12.length : Int) then (if x14 ≤ (x118001.length : Int) then ((some (x118001.take (x14 : Int).toNat : List (S82))).bind fun y120=>(impl_twice.l1 k x12 x13 x14 y120 (y120.length : Int) 0 x118000 x118001 x118002 x118003 ((rd_T82 x12 x14).f0) ((rd_T82 x12 x14).f1) ((rd_T82 x12 x14).f2))) else (none)) else (none)) else (none)) else (impl_twice.l2 k x118003 (x118003.length : Int) 0 x118000 x118001 x118002 x118003)
def impl_twice.l1 : Nat → List (S82) → Int → Int → List (S82) → Int → Int → ByteArray → List (S82) → List (S85) → List (S69) → ByteArray → Int → Bool → Option (Bool)
 | 0,_,_,_,_,_,_,_,_,_,_,_,_,_=>none
 | k + 1,x12,x13,x14,x22,x23,x24,x118000,x118001,x118002,x118003,x120000,x120001,x120002=>if x24 < x23 then (if 0 ≤ x24 then (if x24 < (x22.length : Int) then (if ((rd_T82 x22 x24).f0).toList = x120000.toList then (some true) else (impl_twice.l1 k x12 x13 x14 x22 x23 (wrap64 (x24 + 1)) x118000 x118001 x118002 x118003 x120000 x120001 x120002)) else (none)) else (none)) else (impl_twice.l0 k x12 x13 (wrap64 (x14 + 1)) x118000 x118001 x118002 x118003)
def impl_twice.l2 : Nat → List (S69) → Int → Int → ByteArray → List (S82) → List (S85) → List (S69) → Option (Bool)
 | 0,_,_,_,_,_,_,_=>none
 | k + 1,x36,x37,x38,x118000,x118001,x118002,x118003=>if x38 < x37 then (if 0 ≤ x38 then (if x38 < (x36.length : Int) then (if x38 ≤ (x118003.length : Int) then ((some (x118003.take (x38 : Int).toNat : List (S69))).bind fun y128=>(impl_twice.l3 k x36 x37 x38 y128 (y128.length : Int) 0 x118000 x118001 x118002 x118003 ((rd_T69 x36 x38).f0) ((rd_T69 x36 x38).f1) ((rd_T69 x36 x38).f2))) else (none)) else (none)) else (none)) else (some false)
def impl_twice.l3 : Nat → List (S69) → Int → Int → List (S69) → Int → Int → ByteArray → List (S82) → List (S85) → List (S69) → ByteArray → Bool → List (S85) → Option (Bool)
 | 0,_,_,_,_,_,_,_,_,_,_,_,_,_=>none
 | k + 1,x36,x37,x38,x46,x47,x48,x118000,x118001,x118002,x118003,x128000,x128001,x128002=>if x48 < x47 then (if 0 ≤ x48 then (if x48 < (x46.length : Int) then (if ((rd_T69 x46 x48).f0).toList = x128000.toList then (some true) else (impl_twice.l3 k x36 x37 x38 x46 x47 (wrap64 (x48 + 1)) x118000 x118001 x118002 x118003 x128000 x128001 x128002)) else (none)) else (none)) else (impl_twice.l2 k x36 x37 (wrap64 (x38 + 1)) x118000 x118001 x118002 x118003)
end
def impl_twice.f (k : Nat) (a0_0 : ByteArray) (l0_1 : List (S82)) (l0_2 : List (S85)) (l0_3 : List (S69)) : Option (Bool):=impl_twice.l0 k l0_1 (l0_1.length : Int) 0 a0_0 l0_1 l0_2 l0_3
theorem impl_twice.mono_l : ∀ k,(∀ y0 y1 y2 y3 y4 y5 y6,LeO (impl_twice.l0 k y0 y1 y2 y3 y4 y5 y6) (impl_twice.l0 (k + 1) y0 y1 y2 y3 y4 y5 y6)) ∧ (∀ y0 y1 y2 y3 y4 y5 y6 y7 y8 y9 y10 y11 y12,LeO (impl_twice.l1 k y0 y1 y2 y3 y4 y5 y6 y7 y8 y9 y10 y11 y12) (impl_twice.l1 (k + 1) y0 y1 y2 y3 y4 y5 y6 y7 y8 y9 y10 y11 y12)) ∧ (∀ y0 y1 y2 y3 y4 y5 y6,LeO (impl_twice.l2 k y0 y1 y2 y3 y4 y5 y6) (impl_twice.l2 (k + 1) y0 y1 y2 y3 y4 y5 y6)) ∧ (∀ y0 y1 y2 y3 y4 y5 y6 y7 y8 y9 y10 y11 y12,LeO (impl_twice.l3 k y0 y1 y2 y3 y4 y5 y6 y7 y8 y9 y10 y11 y12) (impl_twice.l3 (k + 1) y0 y1 y2 y3 y4 y5 y6 y7 y8 y9 y10 y11 y12))
 | 0=>⟨fun _ _ _ _ _ _ _ r h=>by simp [impl_twice.l0] at h,fun _ _ _ _ _ _ _ _ _ _ _ _ _ r h=>by simp [impl_twice.l1] at h,fun _ _ _ _ _ _ _ r h=>by simp [impl_twice.l2] at h,fun _ _ _ _ _ _ _ _ _ _ _ _ _ r h=>by simp [impl_twice.l3] at h⟩
 | k + 1=>by
  obtain ⟨ih0,ih1,ih2,ih3⟩:=impl_twice.mono_l k
  refine ⟨?_,?_,?_,?_⟩
  ·intro y0 y1 y2 y3 y4 y5 y6
   unfold impl_twice.l0
   repeat' first
   | (with_reducible exact ih0 _ _ _ _ _ _ _)
   | (with_reducible exact ih1 _ _ _ _ _ _ _ _ _ _ _ _ _)
   | (with_reducible exact ih2 _ _ _ _ _ _ _)
   | (with_reducible exact ih3 _ _ _ _ _ _ _ _ _ _ _ _ _)
   | (with_reducible exact LeO.refl _)
   | (with_reducible exact LeO.none _)
   | (with_reducible refine LeO.ite ?_ ?_)
   | (with_reducible refine LeO.bind ?_ (fun _=>?_))
   | exact ih0 _ _ _ _ _ _ _
   | exact ih1 _ _ _ _ _ _ _ _ _ _ _ _ _
   | exact ih2 _ _ _ _ _ _ _
   | exact ih3 _ _ _ _ _ _ _ _ _ _ _ _ _
   | exact LeO.none _
   | refine LeO.ite ?_ ?_
   | refine LeO.bind ?_ (fun _=>?_)
  ·intro y0 y1 y2 y3 y4 y5 y6 y7 y8 y9 y10 y11 y12
   unfold impl_twice.l1
   repeat' first
   | (with_reducible exact ih0 _ _ _ _ _ _ _)
   | (with_reducible exact ih1 _ _ _ _ _ _ _ _ _ _ _ _ _)
   | (with_reducible exact ih2 _ _ _ _ _ _ _)
   | (with_reducible exact ih3 _ _ _ _ _ _ _ _ _ _ _ _ _)
   | (with_reducible exact LeO.refl _)
   | (with_reducible exact LeO.none _)
   | (with_reducible refine LeO.ite ?_ ?_)
   | (with_reducible refine LeO.bind ?_ (fun _=>?_))
   | exact ih0 _ _ _ _ _ _ _
   | exact ih1 _ _ _ _ _ _ _ _ _ _ _ _ _
   | exact ih2 _ _ _ _ _ _ _
   | exact ih3 _ _ _ _ _ _ _ _ _ _ _ _ _
   | exact LeO.none _
   | refine LeO.ite ?_ ?_
   | refine LeO.bind ?_ (fun _=>?_)
  ·intro y0 y1 y2 y3 y4 y5 y6
   unfold impl_twice.l2
   repeat' first
   | (with_reducible exact ih0 _ _ _ _ _ _ _)
   | (with_reducible exact ih1 _ _ _ _ _ _ _ _ _ _ _ _ _)
   | (with_reducible exact ih2 _ _ _ _ _ _ _)
   | (with_reducible exact ih3 _ _ _ _ _ _ _ _ _ _ _ _ _)
   | (with_reducible exact LeO.refl _)
   | (with_reducible exact LeO.none _)
   | (with_reducible refine LeO.ite ?_ ?_)
   | (with_reducible refine LeO.bind ?_ (fun _=>?_))
   | exact ih0 _ _ _ _ _ _ _
   | exact ih1 _ _ _ _ _ _ _ _ _ _ _ _ _
   | exact ih2 _ _ _ _ _ _ _
   | exact ih3 _ _ _ _ _ _ _ _ _ _ _ _ _
   | exact LeO.none _
   | refine LeO.ite ?_ ?_
   | refine LeO.bind ?_ (fun _=>?_)
  ·intro y0 y1 y2 y3 y4 y5 y6 y7 y8 y9 y10 y11 y12
   unfold impl_twice.l3
   repeat' first
   | (with_reducible exact ih0 _ _ _ _ _ _ _)
   | (with_reducible exact ih1 _ _ _ _ _ _ _ _ _ _ _ _ _)
   | (with_reducible exact ih2 _ _ _ _ _ _ _)
   | (with_reducible exact ih3 _ _ _ _ _ _ _ _ _ _ _ _ _)
   | (with_reducible exact LeO.refl _)
   | (with_reducible exact LeO.none _)
   | (with_reducible refine LeO.ite ?_ ?_)
   | (with_reducible refine LeO.bind ?_ (fun _=>?_))
   | exact ih0 _ _ _ _ _ _ _
   | exact ih1 _ _ _ _ _ _ _ _ _ _ _ _ _
   | exact ih2 _ _ _ _ _ _ _
   | exact ih3 _ _ _ _ _ _ _ _ _ _ _ _ _
   | exact LeO.none _
   | refine LeO.ite ?_ ?_
   | refine LeO.bind ?_ (fun _=>?_)
theorem impl_twice.mono : ∀ a0 a1 a2 a3 k,LeO (impl_twice.f k a0 a1 a2 a3) (impl_twice.f (k + 1) a0 a1 a2 a3):=by
 intro a0 a1 a2 a3 k
 obtain ⟨ih0,ih1,ih2,ih3⟩:=impl_twice.mono_l k
 unfold impl_twice.f
 repeat' first
   | (with_reducible exact ih0 _ _ _ _ _ _ _)
   | (with_reducible exact ih1 _ _ _ _ _ _ _ _ _ _ _ _ _)
   | (with_reducible exact ih2 _ _ _ _ _ _ _)
   | (with_reducible exact ih3 _ _ _ _ _ _ _ _ _ _ _ _ _)
   | (with_reducible exact LeO.refl _)
   | (with_reducible exact LeO.none _)
   | (with_reducible refine LeO.ite ?_ ?_)
   | (with_reducible refine LeO.bind ?_ (fun _=>?_))
   | exact ih0 _ _ _ _ _ _ _
   | exact ih1 _ _ _ _ _ _ _ _ _ _ _ _ _
   | exact ih2 _ _ _ _ _ _ _
   | exact ih3 _ _ _ _ _ _ _ _ _ _ _ _ _
   | exact LeO.none _
   | refine LeO.ite ?_ ?_
   | refine LeO.bind ?_ (fun _=>?_)
set_option maxHeartbeats 8000000 in
set_option maxRecDepth 100000 in
theorem impl_twice.calls (k : Nat) (a0_0 : ByteArray) (A0_1 : Option Addr) (c0_1 : Nat) (l0_1 : List (S82)) (A0_2 : Option Addr) (c0_2 : Nat) (l0_2 : List (S85)) (A0_3 : Option Addr) (c0_3 : Nat) (l0_3 : List (S69)) (r : Bool) (w : World) (hr0_1 : Kd.C k82 w A0_1 l0_1.length l0_1) (hc0_1 : l0_1.length ≤ c0_1) (hr0_2 : Kd.C k85 w A0_2 l0_2.length l0_2) (hc0_2 : l0_2.length ≤ c0_2) (hr0_3 : Kd.C k69 w A0_3 l0_3.length l0_3) (hc0_3 : l0_3.length ≤ c0_3) (h : impl_twice.f k a0_0 l0_1 l0_2 l0_3 = some r) :
  Calls Tryd.prog 56 #[.agg #[.string a0_0,.slice A0_1 l0_1.length c0_1,.slice A0_2 l0_2.length c0_2,.slice A0_3 l0_3.length c0_3]] w fun e w'=>e = .returned (.bool r) ∧ Below w.heap.size w w':=by
 have hu35:=Tryd.underlying35
 have hu82:=Tryd.underlying82
 have hu69:=Tryd.underlying69
 have HR0_1:=aM_ hr0_1
 have HC0_1:=aM_ hc0_1
 clear hr0_1 hc0_1
 have HR0_2:=aM_ hr0_2
 have HC0_2:=aM_ hc0_2
 clear hr0_2 hc0_2
 have HR0_3:=aM_ hr0_3
 have HC0_3:=aM_ hc0_3
 clear hr0_3 hc0_3
 have HB:=aM_ (Below.refl w.heap.size w)
 have H : (impl_twice.l0 k l0_1 (l0_1.length : Int) 0 a0_0 l0_1 l0_2 l0_3) = some r:=h
 clear h
 have H':=aM_ H
 clear H
 go_enter Tryd.func56,Tryd.ntmps56
 go_wp2_with (first | ((with_reducible refine gate_dst (N:=1) rfl ?_);refine box_event ?hg (N:=1) ?hd (cs:=#[.string a0_0,.slice A0_1 l0_1.length c0_1,.slice A0_2 l0_2.length c0_2,.slice A0_3 l0_3.length c0_3]) (t:=35) ?hr ?_;(case hd=>rfl);(case hg=>rfl);(case hr=>first | (go_simp;done) | (go_simp;rfl));intro gb117 hg w2 hbox hb;have n0_:=aM_ (bT_ (by exact bZ_ HB) hb);have n1_:=aM_ (hbox);have n2_:=aM_ ((by rw [hg];exact (bS_ (by exact bZ_ HB)) : w.heap.size ≤ gb117));have n3_:=aM_ ((by rw [hg];exact (bS_ (by exact bZ_ HB)) : w.heap.size ≤ gb117));clear HB;have HB:=n0_;have BK117:=n1_;have GW117:=n2_;have GE117:=n3_;clear n0_ n1_ n2_ n3_;clear hb hbox hg;have hcz3_0 : w2.cell? ⟨gb117,0,none⟩ = some (.string a0_0):=(kC_ BK117.out 0).trans rfl;have hcz3_1 : w2.cell? ⟨gb117,1,none⟩ = some (.slice A0_1 l0_1.length c0_1):=(kC_ BK117.out 1).trans rfl;have hcz3_2 : w2.cell? ⟨gb117,2,none⟩ = some (.slice A0_2 l0_2.length c0_2):=(kC_ BK117.out 2).trans rfl;have hcz3_3 : w2.cell? ⟨gb117,3,none⟩ = some (.slice A0_3 l0_3.length c0_3):=(kC_ BK117.out 3).trans rfl;have hfz3_0:=kF_ BK117.out 0;have hfz3_1:=kF_ BK117.out 1;have hfz3_2:=kF_ BK117.out 2;have hfz3_3:=kF_ BK117.out 3))
 (try simp only [Act.put,sI_,sS_,sZ_])
 go_loopg [14] k (fun kq v14 w'=>∃ (x14_1 : Int),v14 = .int .i64 x14_1 ∧ Aside0 (impl_twice.l0 kq l0_1 (l0_1.length : Int) x14_1 a0_0 l0_1 l0_2 l0_3 = some r) ∧ Aside0 (kq ≤ k) ∧ Aside0 (w'.heap[gb117]? = some (.cells #[.string a0_0,(.slice A0_1 l0_1.length c0_1),(.slice A0_2 l0_2.length c0_2),(.slice A0_3 l0_3.length c0_3)] 35 (0,0))) ∧ Aside0 (Below w.heap.size w w'))
 case atStart=>exact ⟨(0),(by first | rfl | (simp;done) | (simp [*];done)),H', ⟨Nat.le_refl _⟩,⟨by exact kZ_ BK117⟩,⟨by exact bZ_ HB⟩⟩
 case round =>
  clear H'
  try clear p2
  try clear hcz3_0
  try clear hcz3_1
  try clear hcz3_2
  try clear hcz3_3
  try clear hfz3_0
  try clear hfz3_1
  try clear hfz3_2
  try clear hfz3_3
  obtain ⟨x14_1,rfl,HA,HK1,BK117,HB⟩:=hrel
  cases gk with
  | zero=>exact absurd HA.out (by simp [impl_twice.l0])
  | succ k1 =>
   have H:=HA.out
   clear HA
   simp only [impl_twice.l0] at H
   by_cases c4 : x14_1 < (l0_1.length : Int)
   ·rw [if_pos c4] at H
    have c4b0 : decide (x14_1 < (l0_1.length : Int)) = true:=decide_eq_true c4
    clear c4
    by_cases c5 : 0 ≤ x14_1
    ·rw [if_pos c5] at H
     have c5b0 : decide (0 ≤ x14_1) = true:=decide_eq_true c5
     clear c5
     by_cases c6 : x14_1 < (l0_1.length : Int)
     ·rw [if_pos c6] at H
      have c6b0 : decide (x14_1 < (l0_1.length : Int)) = true:=decide_eq_true c6
      clear c6
      have c7b0:=eq_true (oT_ (by first | (with_reducible assumption) | assumption) : 0 ≤ x14_1)
      by_cases c8 : x14_1 ≤ (l0_1.length : Int)
      ·rw [if_pos c8] at H
       have c8b0:=eq_true c8
       have c8b1 : decide (x14_1 ≤ (l0_1.length : Int)) = true:=decide_eq_true c8
       clear c8
       obtain ⟨y120,hy120⟩ : ∃ y_ : List (S82),y_ = (l0_1.take (x14_1 : Int).toNat):=⟨_,rfl⟩
       replace H : (impl_twice.l1 k1 l0_1 (l0_1.length : Int) x14_1 y120 (y120.length : Int) 0 a0_0 l0_1 l0_2 l0_3 ((rd_T82 l0_1 x14_1).f0) ((rd_T82 l0_1 x14_1).f1) ((rd_T82 l0_1 x14_1).f2)) = some r:=by first | (rw [hy120];with_reducible exact H) | (have H2_:=(Option.bind_some _ _).symm.trans H;rw [hy120];with_reducible exact H2_) | (have H2_:=(Option.bind_some _ _).symm.trans H;with_reducible exact H2_) | with_reducible exact H | (rw [hy120];exact H) | exact H
       have Ny120:=aM_ hy120
       clear hy120
       have H':=aM_ H
       clear H
       have p118 : 0 ≤ (x14_1 : Int):=oT_ (by first | (with_reducible assumption) | assumption)
       have q118 : x14_1 < (l0_1.length : Int):=oT_ (by first | (with_reducible assumption) | assumption)
       obtain ⟨ad118,e118,hx118_0,hx118_1,hx118_2⟩:=at_T82 HR0_1.out x14_1 p118 q118
       cases e118
       replace hx118_0:=(HB.out.cell (wL_ w _ hx118_0)).trans hx118_0
       replace hx118_1:=(HB.out.cell (wL_ w _ hx118_1)).trans hx118_1
       replace hx118_2:=(HB.out.cell (wL_ w _ hx118_2)).trans hx118_2
       replace p118:=eq_true p118
       replace q118:=eq_true q118
       go_wp2_with (first | ((with_reducible refine gate_dst (N:=4) rfl ?_);refine box_event ?hg (N:=4) ?hd (cs:=#[.string (⟨#[]⟩ : ByteArray),.int .i64 0,.bool false]) (t:=82) ?hr ?_;(case hd=>rfl);(case hg=>rfl);(case hr=>first | (go_simp;done) | (go_simp;rfl));intro gb119 hg w9 hbox hb;have n0_:=aM_ (blk_below (g:=gb117) (o:=.cells #[.string a0_0,.slice (some ad118) l0_1.length c0_1,.slice A0_2 l0_2.length c0_2,.slice A0_3 l0_3.length c0_3] 35 (0,0)) (by exact kZ_ BK117) hb);have n1_:=aM_ (bT_ (by exact bZ_ HB) hb);have n2_:=aM_ (hbox);have n3_:=aM_ ((by rw [hg];exact (bS_ (by exact bZ_ HB)) : w.heap.size ≤ gb119));have n4_:=aM_ ((by rw [hg];exact (bS_ (by exact bZ_ HB)) : w.heap.size ≤ gb119));have n5_:=aM_ ((by rw [hg];exact nN_ (blk_lt (g:=gb117) (o:=.cells #[.string a0_0,.slice (some ad118) l0_1.length c0_1,.slice A0_2 l0_2.length c0_2,.slice A0_3 l0_3.length c0_3] 35 (0,0)) (by exact kZ_ BK117)) : gb117 ≠ gb119));have n6_:=aM_ ((by rw [hg];exact Nat.ne_of_gt (blk_lt (g:=gb117) (o:=.cells #[.string a0_0,.slice (some ad118) l0_1.length c0_1,.slice A0_2 l0_2.length c0_2,.slice A0_3 l0_3.length c0_3] 35 (0,0)) (by exact kZ_ BK117)) : gb119 ≠ gb117));clear BK117;clear HB;have BK117:=n0_;have HB:=n1_;have BK119:=n2_;have GW119:=n3_;have GE119:=n4_;have NB117_119:=n5_;have NB119_117:=n6_;clear n0_ n1_ n2_ n3_ n4_ n5_ n6_;clear hb hbox hg;have hnb10:=NB119_117.out;have hnc10:=NB117_119.out;have hcz11_0 : w9.cell? ⟨gb119,0,none⟩ = some (.string (⟨#[]⟩ : ByteArray)):=(kC_ BK119.out 0).trans rfl;have hcz11_1 : w9.cell? ⟨gb119,1,none⟩ = some (.int .i64 0):=(kC_ BK119.out 1).trans rfl;have hcz11_2 : w9.cell? ⟨gb119,2,none⟩ = some (.bool false):=(kC_ BK119.out 2).trans rfl;have hfz11_0:=kF_ BK119.out 0;have hfz11_1:=kF_ BK119.out 1;have hfz11_2:=kF_ BK119.out 2) | ((with_reducible refine gate_store (t:=82) (p:=4) rfl ?_);refine store_event (t:=82) (p:=4) (v:=?vo_w12) (w1:=(((w9.setCell ⟨gb119,0,none⟩ (.string ((rd_T82 l0_1 x14_1).f0))).setCell ⟨gb119,1,none⟩ (.int .i64 ((rd_T82 l0_1 x14_1).f1))).setCell ⟨gb119,2,none⟩ (.bool ((rd_T82 l0_1 x14_1).f2)))) ?hg ?ho ?hn ?hr ?_;(case ho=>rfl);(case hg=>rfl);(case hn=>rfl);(case hr=>first | (go_simp;done) | (go_simp;rfl));intro w12 hw;have n0_ : Aside0 (w12.heap[gb117]? = some (.cells #[.string a0_0,.slice (some ad118) l0_1.length c0_1,.slice A0_2 l0_2.length c0_2,.slice A0_3 l0_3.length c0_3] 35 (0,0))):=⟨(by rw [hw];exact (by exact kW_ BK117))⟩;have n1_ : Aside0 (w12.heap[gb119]? = some (.cells #[.string ((rd_T82 l0_1 x14_1).f0),.int .i64 ((rd_T82 l0_1 x14_1).f1),.bool ((rd_T82 l0_1 x14_1).f2)] 82 (0,0))):=⟨(by rw [hw];exact (by (with_reducible repeat (first | refine kN_ ?_ _ | refine kD_ ?_ | refine kA_ ?_ _));refine kP_ (cs:=#[.string ((rd_T82 l0_1 x14_1).f0),.int .i64 ((rd_T82 l0_1 x14_1).f1),.bool false]) ?_ 2 _ rfl;(with_reducible repeat (first | refine kN_ ?_ _ | refine kD_ ?_ | refine kA_ ?_ _));refine kP_ (cs:=#[.string ((rd_T82 l0_1 x14_1).f0),.int .i64 0,.bool false]) ?_ 1 _ rfl;(with_reducible repeat (first | refine kN_ ?_ _ | refine kD_ ?_ | refine kA_ ?_ _));refine kP_ (cs:=#[.string (⟨#[]⟩ : ByteArray),.int .i64 0,.bool false]) ?_ 0 _ rfl;exact kZ_ BK119))⟩;have n2_ : Aside0 (Below w.heap.size w w12):=⟨(by rw [hw];exact (by exact bZ_ HB))⟩;clear hw;clear BK117;clear BK119;clear HB;have BK117:=n0_;have BK119:=n1_;have HB:=n2_;clear n0_ n1_ n2_;have hcz13_0 : w12.cell? ⟨gb117,0,none⟩ = some (.string a0_0):=(kC_ BK117.out 0).trans rfl;have hcz13_1 : w12.cell? ⟨gb117,1,none⟩ = some (.slice (some ad118) l0_1.length c0_1):=(kC_ BK117.out 1).trans rfl;have hcz13_2 : w12.cell? ⟨gb117,2,none⟩ = some (.slice A0_2 l0_2.length c0_2):=(kC_ BK117.out 2).trans rfl;have hcz13_3 : w12.cell? ⟨gb117,3,none⟩ = some (.slice A0_3 l0_3.length c0_3):=(kC_ BK117.out 3).trans rfl;have hfz13_0:=kF_ BK117.out 0;have hfz13_1:=kF_ BK117.out 1;have hfz13_2:=kF_ BK117.out 2;have hfz13_3:=kF_ BK117.out 3;have q14 : (x14_1 : Int) ≤ ((l0_1.length : Int) : Int):=oT_ (by first | (with_reducible assumption) | assumption);obtain ⟨i014,hi014,_,hsz14,_⟩:=info_parts info82;have hroom14 : l0_1.length ≤ c0_1:=HC0_1.out;have hC14 : Kd.C k82 _ (some ad118) l0_1.length l0_1:=HR0_1.out;have hcut14:=cut_to (P:=Tryd.prog) 31 82 .i64 Tryd.underlying31 hi014 (some ad118) l0_1.length c0_1 x14_1 (oT_ (by first | (with_reducible assumption) | assumption)) q14 hroom14;have hr14:=Kd.C_take (m:=(x14_1 : Int).toNat) hC14 (by omega);have hy14 : y120.length = (x14_1 : Int).toNat:=(by rw [Ny120.out,lT_];omega);rw [← Ny120.out] at hr14;rw [← hy14] at hcut14;have HR123:=aM_ hr14;have HC123:=aM_ (show y120.length ≤ c0_1 from by omega);clear hr14 hC14 hroom14 hi014 hsz14;have KY14:=aM_ hy14;clear hy14;replace q14:=eq_true q14))
       (try simp only [Act.put,sI_,sS_,sZ_])
       go_loopg [24] k1 (fun kq v24 w'=>∃ (x24_2 : Int),v24 = .int .i64 x24_2 ∧ Aside0 (impl_twice.l1 kq l0_1 (l0_1.length : Int) x14_1 y120 (y120.length : Int) x24_2 a0_0 l0_1 l0_2 l0_3 ((rd_T82 l0_1 x14_1).f0) ((rd_T82 l0_1 x14_1).f1) ((rd_T82 l0_1 x14_1).f2) = some r) ∧ Aside0 (kq ≤ k1) ∧ Aside0 (w'.heap[gb117]? = some (.cells #[.string a0_0,(.slice (some ad118) l0_1.length c0_1),(.slice A0_2 l0_2.length c0_2),(.slice A0_3 l0_3.length c0_3)] 35 (0,0))) ∧ Aside0 (w'.heap[gb119]? = some (.cells #[.string ((rd_T82 l0_1 x14_1).f0),.int .i64 ((rd_T82 l0_1 x14_1).f1),.bool ((rd_T82 l0_1 x14_1).f2)] 82 (0,0))) ∧ Aside0 (Below w.heap.size w w'))
       case atStart=>exact ⟨(0),(by first | rfl | (simp;done) | (simp [*];done)),H', ⟨Nat.le_refl _⟩,⟨by exact kZ_ BK117⟩,⟨by exact kZ_ BK119⟩,⟨by exact bZ_ HB⟩⟩
       case round =>
        clear H'
        try clear c1
        try clear p1
        try clear q1
        try clear hx1
        try clear p2
        try clear c4
        try clear c4b0
        try clear c5
        try clear c5b0
        try clear c6
        try clear c6b0
        try clear c7
        try clear c7b0
        try clear c8
        try clear c8b0
        try clear c8b1
        try clear c10
        try clear p11
        try clear q11
        try clear hx11
        try clear q14
        try clear hcz11_0
        try clear hcz11_1
        try clear hcz11_2
        try clear hcz13_0
        try clear hcz13_1
        try clear hcz13_2
        try clear hcz13_3
        try clear hcz3_0
        try clear hcz3_1
        try clear hcz3_2
        try clear hcz3_3
        try clear hfz11_0
        try clear hfz11_1
        try clear hfz11_2
        try clear hfz13_0
        try clear hfz13_1
        try clear hfz13_2
        try clear hfz13_3
        try clear hfz3_0
        try clear hfz3_1
        try clear hfz3_2
        try clear hfz3_3
        try clear hx118_0
        try clear hx118_1
        try clear hx118_2
        try clear p118
        try clear p2
        try clear q118
        try clear q14
        obtain ⟨x24_2,rfl,HA,HK2,BK117,BK119,HB⟩:=hrel
        cases gk with
        | zero=>exact absurd HA.out (by simp [impl_twice.l1])
        | succ k2 =>
         have H:=HA.out
         clear HA
         simp only [impl_twice.l1] at H
         by_cases c15 : x24_2 < (y120.length : Int)
         ·rw [if_pos c15] at H
          have c15b0 : decide (x24_2 < (y120.length : Int)) = true:=decide_eq_true c15
          clear c15
          by_cases c16 : 0 ≤ x24_2
          ·rw [if_pos c16] at H
           have c16b0 : decide (0 ≤ x24_2) = true:=decide_eq_true c16
           clear c16
           by_cases c17 : x24_2 < (y120.length : Int)
           ·rw [if_pos c17] at H
            have c17b0 : decide (x24_2 < (y120.length : Int)) = true:=decide_eq_true c17
            clear c17
            by_cases c18 : ((rd_T82 y120 x24_2).f0).toList = ((rd_T82 l0_1 x14_1).f0).toList
            ·rw [if_pos c18] at H
             have c18b0 : (((rd_T82 y120 x24_2).f0).toList == ((rd_T82 l0_1 x14_1).f0).toList) = true:=beq_iff_eq.mpr c18
             have c18b1 : (((rd_T82 y120 x24_2).f0).toList != ((rd_T82 l0_1 x14_1).f0).toList) = false:=bne_eq_false_iff_eq.mpr c18
             clear c18
             obtain rfl:=Option.some.inj H
             have p124 : 0 ≤ (x24_2 : Int):=oT_ (by first | (with_reducible assumption) | assumption)
             have q124 : x24_2 < (y120.length : Int):=oT_ (by first | (with_reducible assumption) | assumption)
             obtain ⟨ad124,e124,hx124_0,hx124_1,hx124_2⟩:=at_T82 HR123.out x24_2 p124 q124
             obtain rfl : ad118 = ad124:=(by injection e124)
             replace hx124_0:=(HB.out.cell (wL_ w _ hx124_0)).trans hx124_0
             replace hx124_1:=(HB.out.cell (wL_ w _ hx124_1)).trans hx124_1
             replace hx124_2:=(HB.out.cell (wL_ w _ hx124_2)).trans hx124_2
             replace p124:=eq_true p124
             replace q124:=eq_true q124
             go_wp2_with (first | ((with_reducible refine gate_dst (N:=6) rfl ?_);refine box_event ?hg (N:=6) ?hd (cs:=#[.string (⟨#[]⟩ : ByteArray),.int .i64 0,.bool false]) (t:=82) ?hr ?_;(case hd=>rfl);(case hg=>rfl);(case hr=>first | (go_simp;done) | (go_simp;rfl));intro gb125 hg w19 hbox hb;have n0_:=aM_ (blk_below (g:=gb117) (o:=.cells #[.string a0_0,.slice (some ad118) l0_1.length c0_1,.slice A0_2 l0_2.length c0_2,.slice A0_3 l0_3.length c0_3] 35 (0,0)) (by exact kZ_ BK117) hb);have n1_:=aM_ (blk_below (g:=gb119) (o:=.cells #[.string ((rd_T82 l0_1 x14_1).f0),.int .i64 ((rd_T82 l0_1 x14_1).f1),.bool ((rd_T82 l0_1 x14_1).f2)] 82 (0,0)) (by exact kZ_ BK119) hb);have n2_:=aM_ (bT_ (by exact bZ_ HB) hb);have n3_:=aM_ (hbox);have n4_:=aM_ ((by rw [hg];exact (bS_ (by exact bZ_ HB)) : w.heap.size ≤ gb125));have n5_:=aM_ ((by rw [hg];exact (bS_ (by exact bZ_ HB)) : w.heap.size ≤ gb125));have n6_:=aM_ ((by rw [hg];exact nN_ (blk_lt (g:=gb117) (o:=.cells #[.string a0_0,.slice (some ad118) l0_1.length c0_1,.slice A0_2 l0_2.length c0_2,.slice A0_3 l0_3.length c0_3] 35 (0,0)) (by exact kZ_ BK117)) : gb117 ≠ gb125));have n7_:=aM_ ((by rw [hg];exact Nat.ne_of_gt (blk_lt (g:=gb117) (o:=.cells #[.string a0_0,.slice (some ad118) l0_1.length c0_1,.slice A0_2 l0_2.length c0_2,.slice A0_3 l0_3.length c0_3] 35 (0,0)) (by exact kZ_ BK117)) : gb125 ≠ gb117));have n8_:=aM_ ((by rw [hg];exact nN_ (blk_lt (g:=gb119) (o:=.cells #[.string ((rd_T82 l0_1 x14_1).f0),.int .i64 ((rd_T82 l0_1 x14_1).f1),.bool ((rd_T82 l0_1 x14_1).f2)] 82 (0,0)) (by exact kZ_ BK119)) : gb119 ≠ gb125));have n9_:=aM_ ((by rw [hg];exact Nat.ne_of_gt (blk_lt (g:=gb119) (o:=.cells #[.string ((rd_T82 l0_1 x14_1).f0),.int .i64 ((rd_T82 l0_1 x14_1).f1),.bool ((rd_T82 l0_1 x14_1).f2)] 82 (0,0)) (by exact kZ_ BK119)) : gb125 ≠ gb119));clear BK117;clear BK119;clear HB;have BK117:=n0_;have BK119:=n1_;have HB:=n2_;have BK125:=n3_;have GW125:=n4_;have GE125:=n5_;have NB117_125:=n6_;have NB125_117:=n7_;have NB119_125:=n8_;have NB125_119:=n9_;clear n0_ n1_ n2_ n3_ n4_ n5_ n6_ n7_ n8_ n9_;clear hb hbox hg;have hnb20:=NB125_117.out;have hnc20:=NB117_125.out;have hnb21:=NB125_119.out;have hnc21:=NB119_125.out;have hcz22_0 : w19.cell? ⟨gb125,0,none⟩ = some (.string (⟨#[]⟩ : ByteArray)):=(kC_ BK125.out 0).trans rfl;have hcz22_1 : w19.cell? ⟨gb125,1,none⟩ = some (.int .i64 0):=(kC_ BK125.out 1).trans rfl;have hcz22_2 : w19.cell? ⟨gb125,2,none⟩ = some (.bool false):=(kC_ BK125.out 2).trans rfl;have hfz22_0:=kF_ BK125.out 0;have hfz22_1:=kF_ BK125.out 1;have hfz22_2:=kF_ BK125.out 2;have hnb23:=NB119_117.out;have hnc23:=NB117_119.out;have hcz24_0 : w19.cell? ⟨gb119,0,none⟩ = some (.string ((rd_T82 l0_1 x14_1).f0)):=(kC_ BK119.out 0).trans rfl;have hcz24_1 : w19.cell? ⟨gb119,1,none⟩ = some (.int .i64 ((rd_T82 l0_1 x14_1).f1)):=(kC_ BK119.out 1).trans rfl;have hcz24_2 : w19.cell? ⟨gb119,2,none⟩ = some (.bool ((rd_T82 l0_1 x14_1).f2)):=(kC_ BK119.out 2).trans rfl;have hfz24_0:=kF_ BK119.out 0;have hfz24_1:=kF_ BK119.out 1;have hfz24_2:=kF_ BK119.out 2))
             go_ret
             exact ⟨by first | rfl | (simp [errW_none,errW_some] <;> rfl) | (simp [*, errW_none,errW_some] <;> rfl),by exact bZ_ HB⟩
            ·rw [if_neg c18] at H
             have c18b0 : (((rd_T82 y120 x24_2).f0).toList == ((rd_T82 l0_1 x14_1).f0).toList) = false:=beq_eq_false_iff_ne.mpr c18
             have c18b1 : (((rd_T82 y120 x24_2).f0).toList != ((rd_T82 l0_1 x14_1).f0).toList) = true:=bne_iff_ne.mpr c18
             have H':=aM_ H
             clear H
             have p124 : 0 ≤ (x24_2 : Int):=oT_ (by first | (with_reducible assumption) | assumption)
             have q124 : x24_2 < (y120.length : Int):=oT_ (by first | (with_reducible assumption) | assumption)
             obtain ⟨ad124,e124,hx124_0,hx124_1,hx124_2⟩:=at_T82 HR123.out x24_2 p124 q124
             obtain rfl : ad118 = ad124:=(by injection e124)
             replace hx124_0:=(HB.out.cell (wL_ w _ hx124_0)).trans hx124_0
             replace hx124_1:=(HB.out.cell (wL_ w _ hx124_1)).trans hx124_1
             replace hx124_2:=(HB.out.cell (wL_ w _ hx124_2)).trans hx124_2
             replace p124:=eq_true p124
             replace q124:=eq_true q124
             go_wp2_with (first | ((with_reducible refine gate_dst (N:=6) rfl ?_);refine box_event ?hg (N:=6) ?hd (cs:=#[.string (⟨#[]⟩ : ByteArray),.int .i64 0,.bool false]) (t:=82) ?hr ?_;(case hd=>rfl);(case hg=>rfl);(case hr=>first | (go_simp;done) | (go_simp;rfl));intro gb125 hg w25 hbox hb;have n0_:=aM_ (blk_below (g:=gb117) (o:=.cells #[.string a0_0,.slice (some ad118) l0_1.length c0_1,.slice A0_2 l0_2.length c0_2,.slice A0_3 l0_3.length c0_3] 35 (0,0)) (by exact kZ_ BK117) hb);have n1_:=aM_ (blk_below (g:=gb119) (o:=.cells #[.string ((rd_T82 l0_1 x14_1).f0),.int .i64 ((rd_T82 l0_1 x14_1).f1),.bool ((rd_T82 l0_1 x14_1).f2)] 82 (0,0)) (by exact kZ_ BK119) hb);have n2_:=aM_ (bT_ (by exact bZ_ HB) hb);have n3_:=aM_ (hbox);have n4_:=aM_ ((by rw [hg];exact (bS_ (by exact bZ_ HB)) : w.heap.size ≤ gb125));have n5_:=aM_ ((by rw [hg];exact (bS_ (by exact bZ_ HB)) : w.heap.size ≤ gb125));have n6_:=aM_ ((by rw [hg];exact nN_ (blk_lt (g:=gb117) (o:=.cells #[.string a0_0,.slice (some ad118) l0_1.length c0_1,.slice A0_2 l0_2.length c0_2,.slice A0_3 l0_3.length c0_3] 35 (0,0)) (by exact kZ_ BK117)) : gb117 ≠ gb125));have n7_:=aM_ ((by rw [hg];exact Nat.ne_of_gt (blk_lt (g:=gb117) (o:=.cells #[.string a0_0,.slice (some ad118) l0_1.length c0_1,.slice A0_2 l0_2.length c0_2,.slice A0_3 l0_3.length c0_3] 35 (0,0)) (by exact kZ_ BK117)) : gb125 ≠ gb117));have n8_:=aM_ ((by rw [hg];exact nN_ (blk_lt (g:=gb119) (o:=.cells #[.string ((rd_T82 l0_1 x14_1).f0),.int .i64 ((rd_T82 l0_1 x14_1).f1),.bool ((rd_T82 l0_1 x14_1).f2)] 82 (0,0)) (by exact kZ_ BK119)) : gb119 ≠ gb125));have n9_:=aM_ ((by rw [hg];exact Nat.ne_of_gt (blk_lt (g:=gb119) (o:=.cells #[.string ((rd_T82 l0_1 x14_1).f0),.int .i64 ((rd_T82 l0_1 x14_1).f1),.bool ((rd_T82 l0_1 x14_1).f2)] 82 (0,0)) (by exact kZ_ BK119)) : gb125 ≠ gb119));clear BK117;clear BK119;clear HB;have BK117:=n0_;have BK119:=n1_;have HB:=n2_;have BK125:=n3_;have GW125:=n4_;have GE125:=n5_;have NB117_125:=n6_;have NB125_117:=n7_;have NB119_125:=n8_;have NB125_119:=n9_;clear n0_ n1_ n2_ n3_ n4_ n5_ n6_ n7_ n8_ n9_;clear hb hbox hg;have hnb26:=NB125_117.out;have hnc26:=NB117_125.out;have hnb27:=NB125_119.out;have hnc27:=NB119_125.out;have hcz28_0 : w25.cell? ⟨gb125,0,none⟩ = some (.string (⟨#[]⟩ : ByteArray)):=(kC_ BK125.out 0).trans rfl;have hcz28_1 : w25.cell? ⟨gb125,1,none⟩ = some (.int .i64 0):=(kC_ BK125.out 1).trans rfl;have hcz28_2 : w25.cell? ⟨gb125,2,none⟩ = some (.bool false):=(kC_ BK125.out 2).trans rfl;have hfz28_0:=kF_ BK125.out 0;have hfz28_1:=kF_ BK125.out 1;have hfz28_2:=kF_ BK125.out 2;have hnb29:=NB119_117.out;have hnc29:=NB117_119.out;have hcz30_0 : w25.cell? ⟨gb119,0,none⟩ = some (.string ((rd_T82 l0_1 x14_1).f0)):=(kC_ BK119.out 0).trans rfl;have hcz30_1 : w25.cell? ⟨gb119,1,none⟩ = some (.int .i64 ((rd_T82 l0_1 x14_1).f1)):=(kC_ BK119.out 1).trans rfl;have hcz30_2 : w25.cell? ⟨gb119,2,none⟩ = some (.bool ((rd_T82 l0_1 x14_1).f2)):=(kC_ BK119.out 2).trans rfl;have hfz30_0:=kF_ BK119.out 0;have hfz30_1:=kF_ BK119.out 1;have hfz30_2:=kF_ BK119.out 2))
             go_roundg k2
             case measure=>have:=HK1.out;have:=HK2.out;omega
             case rel=>exact ⟨(wrap64 (x24_2 + 1)),(by first | rfl | (simp;done) | (simp [*];done)),H', ⟨by have:=HK1.out;have:=HK2.out;omega⟩,⟨by exact kW_ BK117⟩,⟨by exact kW_ BK119⟩,⟨by exact bZ_ HB⟩⟩
           ·rw [if_neg c17] at H
            exact absurd H (by simp)
          ·rw [if_neg c16] at H
           exact absurd H (by simp)
         ·rw [if_neg c15] at H
          have c15b0 : decide (x24_2 < (y120.length : Int)) = false:=decide_eq_false c15
          clear c15
          have H':=aM_ H
          clear H
          go_wp2
          go_roundg k2
          case measure=>have:=HK1.out;have:=HK2.out;omega
          case rel=>exact ⟨(wrap64 (x14_1 + 1)),(by first | rfl | (simp;done) | (simp [*];done)),H', ⟨by have:=HK1.out;have:=HK2.out;omega⟩,⟨by exact kZ_ BK117⟩,⟨by exact bZ_ HB⟩⟩
      ·rw [if_neg c8] at H
       exact absurd H (by simp)
     ·rw [if_neg c6] at H
      exact absurd H (by simp)
    ·rw [if_neg c5] at H
     exact absurd H (by simp)
   ·rw [if_neg c4] at H
    have c4b0 : decide (x14_1 < (l0_1.length : Int)) = false:=decide_eq_false c4
    clear c4
    have H':=aM_ H
    clear H
    have hcz31_0 : wr.cell? ⟨gb117,0,none⟩ = some (.string a0_0):=(kC_ BK117.out 0).trans rfl
    have hcz31_1 : wr.cell? ⟨gb117,1,none⟩ = some (.slice A0_1 l0_1.length c0_1):=(kC_ BK117.out 1).trans rfl
    have hcz31_2 : wr.cell? ⟨gb117,2,none⟩ = some (.slice A0_2 l0_2.length c0_2):=(kC_ BK117.out 2).trans rfl
    have hcz31_3 : wr.cell? ⟨gb117,3,none⟩ = some (.slice A0_3 l0_3.length c0_3):=(kC_ BK117.out 3).trans rfl
    have hfz31_0:=kF_ BK117.out 0
    have hfz31_1:=kF_ BK117.out 1
    have hfz31_2:=kF_ BK117.out 2
    have hfz31_3:=kF_ BK117.out 3
    go_wp2
    (try simp only [Act.put,sI_,sS_,sZ_])
    go_loopg [38] k1 (fun kq v38 w'=>∃ (x38_2 : Int),v38 = .int .i64 x38_2 ∧ Aside0 (impl_twice.l2 kq l0_3 (l0_3.length : Int) x38_2 a0_0 l0_1 l0_2 l0_3 = some r) ∧ Aside0 (kq ≤ k1) ∧ Aside0 (w'.heap[gb117]? = some (.cells #[.string a0_0,(.slice A0_1 l0_1.length c0_1),(.slice A0_2 l0_2.length c0_2),(.slice A0_3 l0_3.length c0_3)] 35 (0,0))) ∧ Aside0 (Below w.heap.size w w'))
    case atStart=>exact ⟨(0),(by first | rfl | (simp;done) | (simp [*];done)),H', ⟨Nat.le_refl _⟩,⟨by exact kZ_ BK117⟩,⟨by exact bZ_ HB⟩⟩
    case round =>
     clear H'
     try clear c1
     try clear p1
     try clear q1
     try clear hx1
     try clear c2
     try clear p2
     try clear c4
     try clear c4b0
     try clear c5
     try clear c5b0
     try clear c6
     try clear c6b0
     try clear p6
     try clear c7
     try clear c7b0
     try clear c8
     try clear c8b0
     try clear c8b1
     try clear c10
     try clear p11
     try clear q11
     try clear hx11
     try clear p12
     try clear q12
     try clear hx12
     try clear q14
     try clear c15
     try clear c15b0
     try clear c16
     try clear c16b0
     try clear c17
     try clear c17b0
     try clear c18
     try clear c18b0
     try clear c18b1
     try clear c20
     try clear c21
     try clear c23
     try clear c26
     try clear c27
     try clear c29
     try clear hcz11_0
     try clear hcz11_1
     try clear hcz11_2
     try clear hcz13_0
     try clear hcz13_1
     try clear hcz13_2
     try clear hcz13_3
     try clear hcz22_0
     try clear hcz22_1
     try clear hcz22_2
     try clear hcz24_0
     try clear hcz24_1
     try clear hcz24_2
     try clear hcz28_0
     try clear hcz28_1
     try clear hcz28_2
     try clear hcz30_0
     try clear hcz30_1
     try clear hcz30_2
     try clear hcz31_0
     try clear hcz31_1
     try clear hcz31_2
     try clear hcz31_3
     try clear hcz3_0
     try clear hcz3_1
     try clear hcz3_2
     try clear hcz3_3
     try clear hfz11_0
     try clear hfz11_1
     try clear hfz11_2
     try clear hfz13_0
     try clear hfz13_1
     try clear hfz13_2
     try clear hfz13_3
     try clear hfz22_0
     try clear hfz22_1
     try clear hfz22_2
     try clear hfz24_0
     try clear hfz24_1
     try clear hfz24_2
     try clear hfz28_0
     try clear hfz28_1
     try clear hfz28_2
     try clear hfz30_0
     try clear hfz30_1
     try clear hfz30_2
     try clear hfz31_0
     try clear hfz31_1
     try clear hfz31_2
     try clear hfz31_3
     try clear hfz3_0
     try clear hfz3_1
     try clear hfz3_2
     try clear hfz3_3
     try clear hx118_0
     try clear hx118_1
     try clear hx118_2
     try clear hx124_0
     try clear hx124_1
     try clear hx124_2
     try clear p1
     try clear p11
     try clear p118
     try clear p124
     try clear p2
     try clear q1
     try clear q11
     try clear q118
     try clear q124
     try clear q14
     obtain ⟨x38_2,rfl,HA,HK2,BK117,HB⟩:=hrel
     cases gk with
     | zero=>exact absurd HA.out (by simp [impl_twice.l2])
     | succ k2 =>
      have H:=HA.out
      clear HA
      simp only [impl_twice.l2] at H
      by_cases c32 : x38_2 < (l0_3.length : Int)
      ·rw [if_pos c32] at H
       have c32b0 : decide (x38_2 < (l0_3.length : Int)) = true:=decide_eq_true c32
       clear c32
       by_cases c33 : 0 ≤ x38_2
       ·rw [if_pos c33] at H
        have c33b0 : decide (0 ≤ x38_2) = true:=decide_eq_true c33
        clear c33
        by_cases c34 : x38_2 < (l0_3.length : Int)
        ·rw [if_pos c34] at H
         have c34b0 : decide (x38_2 < (l0_3.length : Int)) = true:=decide_eq_true c34
         clear c34
         have c35b0:=eq_true (oT_ (by first | (with_reducible assumption) | assumption) : 0 ≤ x38_2)
         by_cases c36 : x38_2 ≤ (l0_3.length : Int)
         ·rw [if_pos c36] at H
          have c36b0:=eq_true c36
          have c36b1 : decide (x38_2 ≤ (l0_3.length : Int)) = true:=decide_eq_true c36
          clear c36
          obtain ⟨y128,hy128⟩ : ∃ y_ : List (S69),y_ = (l0_3.take (x38_2 : Int).toNat):=⟨_,rfl⟩
          replace H : (impl_twice.l3 k2 l0_3 (l0_3.length : Int) x38_2 y128 (y128.length : Int) 0 a0_0 l0_1 l0_2 l0_3 ((rd_T69 l0_3 x38_2).f0) ((rd_T69 l0_3 x38_2).f1) ((rd_T69 l0_3 x38_2).f2)) = some r:=by first | (rw [hy128];with_reducible exact H) | (have H2_:=(Option.bind_some _ _).symm.trans H;rw [hy128];with_reducible exact H2_) | (have H2_:=(Option.bind_some _ _).symm.trans H;with_reducible exact H2_) | with_reducible exact H | (rw [hy128];exact H) | exact H
          have Ny128:=aM_ hy128
          clear hy128
          have H':=aM_ H
          clear H
          have p126 : 0 ≤ (x38_2 : Int):=oT_ (by first | (with_reducible assumption) | assumption)
          have q126 : x38_2 < (l0_3.length : Int):=oT_ (by first | (with_reducible assumption) | assumption)
          obtain ⟨ad126,A126_2,c126_2,e126,hx126_0,hx126_1,hx126_2,hl126_2,hi126_2⟩:=at_T69 HR0_3.out x38_2 p126 q126
          cases e126
          replace hx126_0:=(HB.out.cell (wL_ w _ hx126_0)).trans hx126_0
          replace hx126_1:=(HB.out.cell (wL_ w _ hx126_1)).trans hx126_1
          replace hx126_2:=(HB.out.cell (wL_ w _ hx126_2)).trans hx126_2
          have HR126_2:=aM_ hi126_2
          have HC126_2:=aM_ hl126_2
          clear hi126_2 hl126_2
          replace p126:=eq_true p126
          replace q126:=eq_true q126
          go_wp2_with (first | ((with_reducible refine gate_dst (N:=8) rfl ?_);refine box_event ?hg (N:=8) ?hd (cs:=#[.string (⟨#[]⟩ : ByteArray),.bool false,.slice none 0 0]) (t:=69) ?hr ?_;(case hd=>rfl);(case hg=>rfl);(case hr=>first | (go_simp;done) | (go_simp;rfl));intro gb127 hg w37 hbox hb;have n0_:=aM_ (blk_below (g:=gb117) (o:=.cells #[.string a0_0,.slice A0_1 l0_1.length c0_1,.slice A0_2 l0_2.length c0_2,.slice (some ad126) l0_3.length c0_3] 35 (0,0)) (by exact kZ_ BK117) hb);have n1_:=aM_ (bT_ (by exact bZ_ HB) hb);have n2_:=aM_ (hbox);have n3_:=aM_ ((by rw [hg];exact (bS_ (by exact bZ_ HB)) : w.heap.size ≤ gb127));have n4_:=aM_ ((by rw [hg];exact (bS_ (by exact bZ_ HB)) : w.heap.size ≤ gb127));have n5_:=aM_ ((by rw [hg];exact nN_ (blk_lt (g:=gb117) (o:=.cells #[.string a0_0,.slice A0_1 l0_1.length c0_1,.slice A0_2 l0_2.length c0_2,.slice (some ad126) l0_3.length c0_3] 35 (0,0)) (by exact kZ_ BK117)) : gb117 ≠ gb127));have n6_:=aM_ ((by rw [hg];exact Nat.ne_of_gt (blk_lt (g:=gb117) (o:=.cells #[.string a0_0,.slice A0_1 l0_1.length c0_1,.slice A0_2 l0_2.length c0_2,.slice (some ad126) l0_3.length c0_3] 35 (0,0)) (by exact kZ_ BK117)) : gb127 ≠ gb117));clear BK117;clear HB;have BK117:=n0_;have HB:=n1_;have BK127:=n2_;have GW127:=n3_;have GE127:=n4_;have NB117_127:=n5_;have NB127_117:=n6_;clear n0_ n1_ n2_ n3_ n4_ n5_ n6_;clear hb hbox hg;have hnb38:=NB127_117.out;have hnc38:=NB117_127.out;have hcz39_0 : w37.cell? ⟨gb127,0,none⟩ = some (.string (⟨#[]⟩ : ByteArray)):=(kC_ BK127.out 0).trans rfl;have hcz39_1 : w37.cell? ⟨gb127,1,none⟩ = some (.bool false):=(kC_ BK127.out 1).trans rfl;have hcz39_2 : w37.cell? ⟨gb127,2,none⟩ = some (.slice none 0 0):=(kC_ BK127.out 2).trans rfl;have hfz39_0:=kF_ BK127.out 0;have hfz39_1:=kF_ BK127.out 1;have hfz39_2:=kF_ BK127.out 2) | ((with_reducible refine gate_store (t:=69) (p:=8) rfl ?_);refine store_event (t:=69) (p:=8) (v:=?vo_w40) (w1:=(((w37.setCell ⟨gb127,0,none⟩ (.string ((rd_T69 l0_3 x38_2).f0))).setCell ⟨gb127,1,none⟩ (.bool ((rd_T69 l0_3 x38_2).f1))).setCell ⟨gb127,2,none⟩ (.slice A126_2 ((rd_T69 l0_3 x38_2).f2).length c126_2))) ?hg ?ho ?hn ?hr ?_;(case ho=>rfl);(case hg=>rfl);(case hn=>rfl);(case hr=>first | (go_simp;done) | (go_simp;rfl));intro w40 hw;have n0_ : Aside0 (w40.heap[gb117]? = some (.cells #[.string a0_0,.slice A0_1 l0_1.length c0_1,.slice A0_2 l0_2.length c0_2,.slice (some ad126) l0_3.length c0_3] 35 (0,0))):=⟨(by rw [hw];exact (by exact kW_ BK117))⟩;have n1_ : Aside0 (w40.heap[gb127]? = some (.cells #[.string ((rd_T69 l0_3 x38_2).f0),.bool ((rd_T69 l0_3 x38_2).f1),.slice A126_2 ((rd_T69 l0_3 x38_2).f2).length c126_2] 69 (0,0))):=⟨(by rw [hw];exact (by (with_reducible repeat (first | refine kN_ ?_ _ | refine kD_ ?_ | refine kA_ ?_ _));refine kP_ (cs:=#[.string ((rd_T69 l0_3 x38_2).f0),.bool ((rd_T69 l0_3 x38_2).f1),.slice none 0 0]) ?_ 2 _ rfl;(with_reducible repeat (first | refine kN_ ?_ _ | refine kD_ ?_ | refine kA_ ?_ _));refine kP_ (cs:=#[.string ((rd_T69 l0_3 x38_2).f0),.bool false,.slice none 0 0]) ?_ 1 _ rfl;(with_reducible repeat (first | refine kN_ ?_ _ | refine kD_ ?_ | refine kA_ ?_ _));refine kP_ (cs:=#[.string (⟨#[]⟩ : ByteArray),.bool false,.slice none 0 0]) ?_ 0 _ rfl;exact kZ_ BK127))⟩;have n2_ : Aside0 (Below w.heap.size w w40):=⟨(by rw [hw];exact (by exact bZ_ HB))⟩;clear hw;clear BK117;clear BK127;clear HB;have BK117:=n0_;have BK127:=n1_;have HB:=n2_;clear n0_ n1_ n2_;have hcz41_0 : w40.cell? ⟨gb117,0,none⟩ = some (.string a0_0):=(kC_ BK117.out 0).trans rfl;have hcz41_1 : w40.cell? ⟨gb117,1,none⟩ = some (.slice A0_1 l0_1.length c0_1):=(kC_ BK117.out 1).trans rfl;have hcz41_2 : w40.cell? ⟨gb117,2,none⟩ = some (.slice A0_2 l0_2.length c0_2):=(kC_ BK117.out 2).trans rfl;have hcz41_3 : w40.cell? ⟨gb117,3,none⟩ = some (.slice (some ad126) l0_3.length c0_3):=(kC_ BK117.out 3).trans rfl;have hfz41_0:=kF_ BK117.out 0;have hfz41_1:=kF_ BK117.out 1;have hfz41_2:=kF_ BK117.out 2;have hfz41_3:=kF_ BK117.out 3;have q42 : (x38_2 : Int) ≤ ((l0_3.length : Int) : Int):=oT_ (by first | (with_reducible assumption) | assumption);obtain ⟨i042,hi042,_,hsz42,_⟩:=info_parts info69;have hroom42 : l0_3.length ≤ c0_3:=HC0_3.out;have hC42 : Kd.C k69 _ (some ad126) l0_3.length l0_3:=HR0_3.out;have hcut42:=cut_to (P:=Tryd.prog) 33 69 .i64 Tryd.underlying33 hi042 (some ad126) l0_3.length c0_3 x38_2 (oT_ (by first | (with_reducible assumption) | assumption)) q42 hroom42;have hr42:=Kd.C_take (m:=(x38_2 : Int).toNat) hC42 (by omega);have hy42 : y128.length = (x38_2 : Int).toNat:=(by rw [Ny128.out,lT_];omega);rw [← Ny128.out] at hr42;rw [← hy42] at hcut42;have HR131:=aM_ hr42;have HC131:=aM_ (show y128.length ≤ c0_3 from by omega);clear hr42 hC42 hroom42 hi042 hsz42;have KY42:=aM_ hy42;clear hy42;replace q42:=eq_true q42))
          (try simp only [Act.put,sI_,sS_,sZ_])
          go_loopg [48] k2 (fun kq v48 w'=>∃ (x48_3 : Int),v48 = .int .i64 x48_3 ∧ Aside0 (impl_twice.l3 kq l0_3 (l0_3.length : Int) x38_2 y128 (y128.length : Int) x48_3 a0_0 l0_1 l0_2 l0_3 ((rd_T69 l0_3 x38_2).f0) ((rd_T69 l0_3 x38_2).f1) ((rd_T69 l0_3 x38_2).f2) = some r) ∧ Aside0 (kq ≤ k2) ∧ Aside0 (w'.heap[gb117]? = some (.cells #[.string a0_0,(.slice A0_1 l0_1.length c0_1),(.slice A0_2 l0_2.length c0_2),(.slice (some ad126) l0_3.length c0_3)] 35 (0,0))) ∧ Aside0 (w'.heap[gb127]? = some (.cells #[.string ((rd_T69 l0_3 x38_2).f0),.bool ((rd_T69 l0_3 x38_2).f1),(.slice A126_2 ((rd_T69 l0_3 x38_2).f2).length c126_2)] 69 (0,0))) ∧ Aside0 (Below w.heap.size w w'))
          case atStart=>exact ⟨(0),(by first | rfl | (simp;done) | (simp [*];done)),H', ⟨Nat.le_refl _⟩,⟨by exact kZ_ BK117⟩,⟨by exact kZ_ BK127⟩,⟨by exact bZ_ HB⟩⟩
          case round =>
           clear H'
           try clear c1
           try clear p1
           try clear q1
           try clear hx1
           try clear c2
           try clear p2
           try clear c3
           try clear c4
           try clear c4b0
           try clear q4
           try clear c5
           try clear c5b0
           try clear c6
           try clear c6b0
           try clear p6
           try clear c7
           try clear c7b0
           try clear c8
           try clear c8b0
           try clear c8b1
           try clear c10
           try clear p11
           try clear q11
           try clear hx11
           try clear c12
           try clear p12
           try clear q12
           try clear hx12
           try clear q14
           try clear c15
           try clear c15b0
           try clear c16
           try clear c16b0
           try clear c17
           try clear c17b0
           try clear c18
           try clear c18b0
           try clear c18b1
           try clear c20
           try clear c21
           try clear c23
           try clear c26
           try clear c27
           try clear c29
           try clear c32
           try clear c32b0
           try clear c33
           try clear c33b0
           try clear c34
           try clear c34b0
           try clear c35
           try clear c35b0
           try clear c36
           try clear c36b0
           try clear c36b1
           try clear c38
           try clear q42
           try clear hcz11_0
           try clear hcz11_1
           try clear hcz11_2
           try clear hcz13_0
           try clear hcz13_1
           try clear hcz13_2
           try clear hcz13_3
           try clear hcz22_0
           try clear hcz22_1
           try clear hcz22_2
           try clear hcz24_0
           try clear hcz24_1
           try clear hcz24_2
           try clear hcz28_0
           try clear hcz28_1
           try clear hcz28_2
           try clear hcz30_0
           try clear hcz30_1
           try clear hcz30_2
           try clear hcz31_0
           try clear hcz31_1
           try clear hcz31_2
           try clear hcz31_3
           try clear hcz39_0
           try clear hcz39_1
           try clear hcz39_2
           try clear hcz3_0
           try clear hcz3_1
           try clear hcz3_2
           try clear hcz3_3
           try clear hcz41_0
           try clear hcz41_1
           try clear hcz41_2
           try clear hcz41_3
           try clear hfz11_0
           try clear hfz11_1
           try clear hfz11_2
           try clear hfz13_0
           try clear hfz13_1
           try clear hfz13_2
           try clear hfz13_3
           try clear hfz22_0
           try clear hfz22_1
           try clear hfz22_2
           try clear hfz24_0
           try clear hfz24_1
           try clear hfz24_2
           try clear hfz28_0
           try clear hfz28_1
           try clear hfz28_2
           try clear hfz30_0
           try clear hfz30_1
           try clear hfz30_2
           try clear hfz31_0
           try clear hfz31_1
           try clear hfz31_2
           try clear hfz31_3
           try clear hfz39_0
           try clear hfz39_1
           try clear hfz39_2
           try clear hfz3_0
           try clear hfz3_1
           try clear hfz3_2
           try clear hfz3_3
           try clear hfz41_0
           try clear hfz41_1
           try clear hfz41_2
           try clear hfz41_3
           try clear hx118_0
           try clear hx118_1
           try clear hx118_2
           try clear hx124_0
           try clear hx124_1
           try clear hx124_2
           try clear hx126_0
           try clear hx126_1
           try clear hx126_2
           try clear p1
           try clear p11
           try clear p118
           try clear p12
           try clear p124
           try clear p126
           try clear p2
           try clear p6
           try clear q1
           try clear q11
           try clear q118
           try clear q12
           try clear q124
           try clear q126
           try clear q14
           try clear q42
           obtain ⟨x48_3,rfl,HA,HK3,BK117,BK127,HB⟩:=hrel
           cases gk with
           | zero=>exact absurd HA.out (by simp [impl_twice.l3])
           | succ k3 =>
            have H:=HA.out
            clear HA
            simp only [impl_twice.l3] at H
            by_cases c43 : x48_3 < (y128.length : Int)
            ·rw [if_pos c43] at H
             have c43b0 : decide (x48_3 < (y128.length : Int)) = true:=decide_eq_true c43
             clear c43
             by_cases c44 : 0 ≤ x48_3
             ·rw [if_pos c44] at H
              have c44b0 : decide (0 ≤ x48_3) = true:=decide_eq_true c44
              clear c44
              by_cases c45 : x48_3 < (y128.length : Int)
              ·rw [if_pos c45] at H
               have c45b0 : decide (x48_3 < (y128.length : Int)) = true:=decide_eq_true c45
               clear c45
               by_cases c46 : ((rd_T69 y128 x48_3).f0).toList = ((rd_T69 l0_3 x38_2).f0).toList
               ·rw [if_pos c46] at H
                have c46b0 : (((rd_T69 y128 x48_3).f0).toList == ((rd_T69 l0_3 x38_2).f0).toList) = true:=beq_iff_eq.mpr c46
                have c46b1 : (((rd_T69 y128 x48_3).f0).toList != ((rd_T69 l0_3 x38_2).f0).toList) = false:=bne_eq_false_iff_eq.mpr c46
                clear c46
                obtain rfl:=Option.some.inj H
                have p132 : 0 ≤ (x48_3 : Int):=oT_ (by first | (with_reducible assumption) | assumption)
                have q132 : x48_3 < (y128.length : Int):=oT_ (by first | (with_reducible assumption) | assumption)
                obtain ⟨ad132,A132_2,c132_2,e132,hx132_0,hx132_1,hx132_2,hl132_2,hi132_2⟩:=at_T69 HR131.out x48_3 p132 q132
                obtain rfl : ad126 = ad132:=(by injection e132)
                replace hx132_0:=(HB.out.cell (wL_ w _ hx132_0)).trans hx132_0
                replace hx132_1:=(HB.out.cell (wL_ w _ hx132_1)).trans hx132_1
                replace hx132_2:=(HB.out.cell (wL_ w _ hx132_2)).trans hx132_2
                have HR132_2:=aM_ hi132_2
                have HC132_2:=aM_ hl132_2
                clear hi132_2 hl132_2
                replace p132:=eq_true p132
                replace q132:=eq_true q132
                go_wp2_with (first | ((with_reducible refine gate_dst (N:=10) rfl ?_);refine box_event ?hg (N:=10) ?hd (cs:=#[.string (⟨#[]⟩ : ByteArray),.bool false,.slice none 0 0]) (t:=69) ?hr ?_;(case hd=>rfl);(case hg=>rfl);(case hr=>first | (go_simp;done) | (go_simp;rfl));intro gb133 hg w47 hbox hb;have n0_:=aM_ (blk_below (g:=gb117) (o:=.cells #[.string a0_0,.slice A0_1 l0_1.length c0_1,.slice A0_2 l0_2.length c0_2,.slice (some ad126) l0_3.length c0_3] 35 (0,0)) (by exact kZ_ BK117) hb);have n1_:=aM_ (blk_below (g:=gb127) (o:=.cells #[.string ((rd_T69 l0_3 x38_2).f0),.bool ((rd_T69 l0_3 x38_2).f1),.slice A126_2 ((rd_T69 l0_3 x38_2).f2).length c126_2] 69 (0,0)) (by exact kZ_ BK127) hb);have n2_:=aM_ (bT_ (by exact bZ_ HB) hb);have n3_:=aM_ (hbox);have n4_:=aM_ ((by rw [hg];exact (bS_ (by exact bZ_ HB)) : w.heap.size ≤ gb133));have n5_:=aM_ ((by rw [hg];exact (bS_ (by exact bZ_ HB)) : w.heap.size ≤ gb133));have n6_:=aM_ ((by rw [hg];exact nN_ (blk_lt (g:=gb117) (o:=.cells #[.string a0_0,.slice A0_1 l0_1.length c0_1,.slice A0_2 l0_2.length c0_2,.slice (some ad126) l0_3.length c0_3] 35 (0,0)) (by exact kZ_ BK117)) : gb117 ≠ gb133));have n7_:=aM_ ((by rw [hg];exact Nat.ne_of_gt (blk_lt (g:=gb117) (o:=.cells #[.string a0_0,.slice A0_1 l0_1.length c0_1,.slice A0_2 l0_2.length c0_2,.slice (some ad126) l0_3.length c0_3] 35 (0,0)) (by exact kZ_ BK117)) : gb133 ≠ gb117));have n8_:=aM_ ((by rw [hg];exact nN_ (blk_lt (g:=gb127) (o:=.cells #[.string ((rd_T69 l0_3 x38_2).f0),.bool ((rd_T69 l0_3 x38_2).f1),.slice A126_2 ((rd_T69 l0_3 x38_2).f2).length c126_2] 69 (0,0)) (by exact kZ_ BK127)) : gb127 ≠ gb133));have n9_:=aM_ ((by rw [hg];exact Nat.ne_of_gt (blk_lt (g:=gb127) (o:=.cells #[.string ((rd_T69 l0_3 x38_2).f0),.bool ((rd_T69 l0_3 x38_2).f1),.slice A126_2 ((rd_T69 l0_3 x38_2).f2).length c126_2] 69 (0,0)) (by exact kZ_ BK127)) : gb133 ≠ gb127));clear BK117;clear BK127;clear HB;have BK117:=n0_;have BK127:=n1_;have HB:=n2_;have BK133:=n3_;have GW133:=n4_;have GE133:=n5_;have NB117_133:=n6_;have NB133_117:=n7_;have NB127_133:=n8_;have NB133_127:=n9_;clear n0_ n1_ n2_ n3_ n4_ n5_ n6_ n7_ n8_ n9_;clear hb hbox hg;have hnb48:=NB133_117.out;have hnc48:=NB117_133.out;have hnb49:=NB133_127.out;have hnc49:=NB127_133.out;have hcz50_0 : w47.cell? ⟨gb133,0,none⟩ = some (.string (⟨#[]⟩ : ByteArray)):=(kC_ BK133.out 0).trans rfl;have hcz50_1 : w47.cell? ⟨gb133,1,none⟩ = some (.bool false):=(kC_ BK133.out 1).trans rfl;have hcz50_2 : w47.cell? ⟨gb133,2,none⟩ = some (.slice none 0 0):=(kC_ BK133.out 2).trans rfl;have hfz50_0:=kF_ BK133.out 0;have hfz50_1:=kF_ BK133.out 1;have hfz50_2:=kF_ BK133.out 2;have hnb51:=NB127_117.out;have hnc51:=NB117_127.out;have hcz52_0 : w47.cell? ⟨gb127,0,none⟩ = some (.string ((rd_T69 l0_3 x38_2).f0)):=(kC_ BK127.out 0).trans rfl;have hcz52_1 : w47.cell? ⟨gb127,1,none⟩ = some (.bool ((rd_T69 l0_3 x38_2).f1)):=(kC_ BK127.out 1).trans rfl;have hcz52_2 : w47.cell? ⟨gb127,2,none⟩ = some (.slice A126_2 ((rd_T69 l0_3 x38_2).f2).length c126_2):=(kC_ BK127.out 2).trans rfl;have hfz52_0:=kF_ BK127.out 0;have hfz52_1:=kF_ BK127.out 1;have hfz52_2:=kF_ BK127.out 2))
                go_ret
                exact ⟨by first | rfl | (simp [errW_none,errW_some] <;> rfl) | (simp [*, errW_none,errW_some] <;> rfl),by exact bZ_ HB⟩
               ·rw [if_neg c46] at H
                have c46b0 : (((rd_T69 y128 x48_3).f0).toList == ((rd_T69 l0_3 x38_2).f0).toList) = false:=beq_eq_false_iff_ne.mpr c46
                have c46b1 : (((rd_T69 y128 x48_3).f0).toList != ((rd_T69 l0_3 x38_2).f0).toList) = true:=bne_iff_ne.mpr c46
                have H':=aM_ H
                clear H
                have p132 : 0 ≤ (x48_3 : Int):=oT_ (by first | (with_reducible assumption) | assumption)
                have q132 : x48_3 < (y128.length : Int):=oT_ (by first | (with_reducible assumption) | assumption)
                obtain ⟨ad132,A132_2,c132_2,e132,hx132_0,hx132_1,hx132_2,hl132_2,hi132_2⟩:=at_T69 HR131.out x48_3 p132 q132
                obtain rfl : ad126 = ad132:=(by injection e132)
                replace hx132_0:=(HB.out.cell (wL_ w _ hx132_0)).trans hx132_0
                replace hx132_1:=(HB.out.cell (wL_ w _ hx132_1)).trans hx132_1
                replace hx132_2:=(HB.out.cell (wL_ w _ hx132_2)).trans hx132_2
                have HR132_2:=aM_ hi132_2
                have HC132_2:=aM_ hl132_2
                clear hi132_2 hl132_2
                replace p132:=eq_true p132
                replace q132:=eq_true q132
                go_wp2_with (first | ((with_reducible refine gate_dst (N:=10) rfl ?_);refine box_event ?hg (N:=10) ?hd (cs:=#[.string (⟨#[]⟩ : ByteArray),.bool false,.slice none 0 0]) (t:=69) ?hr ?_;(case hd=>rfl);(case hg=>rfl);(case hr=>first | (go_simp;done) | (go_simp;rfl));intro gb133 hg w53 hbox hb;have n0_:=aM_ (blk_below (g:=gb117) (o:=.cells #[.string a0_0,.slice A0_1 l0_1.length c0_1,.slice A0_2 l0_2.length c0_2,.slice (some ad126) l0_3.length c0_3] 35 (0,0)) (by exact kZ_ BK117) hb);have n1_:=aM_ (blk_below (g:=gb127) (o:=.cells #[.string ((rd_T69 l0_3 x38_2).f0),.bool ((rd_T69 l0_3 x38_2).f1),.slice A126_2 ((rd_T69 l0_3 x38_2).f2).length c126_2] 69 (0,0)) (by exact kZ_ BK127) hb);have n2_:=aM_ (bT_ (by exact bZ_ HB) hb);have n3_:=aM_ (hbox);have n4_:=aM_ ((by rw [hg];exact (bS_ (by exact bZ_ HB)) : w.heap.size ≤ gb133));have n5_:=aM_ ((by rw [hg];exact (bS_ (by exact bZ_ HB)) : w.heap.size ≤ gb133));have n6_:=aM_ ((by rw [hg];exact nN_ (blk_lt (g:=gb117) (o:=.cells #[.string a0_0,.slice A0_1 l0_1.length c0_1,.slice A0_2 l0_2.length c0_2,.slice (some ad126) l0_3.length c0_3] 35 (0,0)) (by exact kZ_ BK117)) : gb117 ≠ gb133));have n7_:=aM_ ((by rw [hg];exact Nat.ne_of_gt (blk_lt (g:=gb117) (o:=.cells #[.string a0_0,.slice A0_1 l0_1.length c0_1,.slice A0_2 l0_2.length c0_2,.slice (some ad126) l0_3.length c0_3] 35 (0,0)) (by exact kZ_ BK117)) : gb133 ≠ gb117));have n8_:=aM_ ((by rw [hg];exact nN_ (blk_lt (g:=gb127) (o:=.cells #[.string ((rd_T69 l0_3 x38_2).f0),.bool ((rd_T69 l0_3 x38_2).f1),.slice A126_2 ((rd_T69 l0_3 x38_2).f2).length c126_2] 69 (0,0)) (by exact kZ_ BK127)) : gb127 ≠ gb133));have n9_:=aM_ ((by rw [hg];exact Nat.ne_of_gt (blk_lt (g:=gb127) (o:=.cells #[.string ((rd_T69 l0_3 x38_2).f0),.bool ((rd_T69 l0_3 x38_2).f1),.slice A126_2 ((rd_T69 l0_3 x38_2).f2).length c126_2] 69 (0,0)) (by exact kZ_ BK127)) : gb133 ≠ gb127));clear BK117;clear BK127;clear HB;have BK117:=n0_;have BK127:=n1_;have HB:=n2_;have BK133:=n3_;have GW133:=n4_;have GE133:=n5_;have NB117_133:=n6_;have NB133_117:=n7_;have NB127_133:=n8_;have NB133_127:=n9_;clear n0_ n1_ n2_ n3_ n4_ n5_ n6_ n7_ n8_ n9_;clear hb hbox hg;have hnb54:=NB133_117.out;have hnc54:=NB117_133.out;have hnb55:=NB133_127.out;have hnc55:=NB127_133.out;have hcz56_0 : w53.cell? ⟨gb133,0,none⟩ = some (.string (⟨#[]⟩ : ByteArray)):=(kC_ BK133.out 0).trans rfl;have hcz56_1 : w53.cell? ⟨gb133,1,none⟩ = some (.bool false):=(kC_ BK133.out 1).trans rfl;have hcz56_2 : w53.cell? ⟨gb133,2,none⟩ = some (.slice none 0 0):=(kC_ BK133.out 2).trans rfl;have hfz56_0:=kF_ BK133.out 0;have hfz56_1:=kF_ BK133.out 1;have hfz56_2:=kF_ BK133.out 2;have hnb57:=NB127_117.out;have hnc57:=NB117_127.out;have hcz58_0 : w53.cell? ⟨gb127,0,none⟩ = some (.string ((rd_T69 l0_3 x38_2).f0)):=(kC_ BK127.out 0).trans rfl;have hcz58_1 : w53.cell? ⟨gb127,1,none⟩ = some (.bool ((rd_T69 l0_3 x38_2).f1)):=(kC_ BK127.out 1).trans rfl;have hcz58_2 : w53.cell? ⟨gb127,2,none⟩ = some (.slice A126_2 ((rd_T69 l0_3 x38_2).f2).length c126_2):=(kC_ BK127.out 2).trans rfl;have hfz58_0:=kF_ BK127.out 0;have hfz58_1:=kF_ BK127.out 1;have hfz58_2:=kF_ BK127.out 2))
                go_roundg k3
                case measure=>have:=HK1.out;have:=HK2.out;have:=HK3.out;omega
                case rel=>exact ⟨(wrap64 (x48_3 + 1)),(by first | rfl | (simp;done) | (simp [*];done)),H', ⟨by have:=HK1.out;have:=HK2.out;have:=HK3.out;omega⟩,⟨by exact kW_ BK117⟩,⟨by exact kW_ BK127⟩,⟨by exact bZ_ HB⟩⟩
              ·rw [if_neg c45] at H
               exact absurd H (by simp)
             ·rw [if_neg c44] at H
              exact absurd H (by simp)
            ·rw [if_neg c43] at H
             have c43b0 : decide (x48_3 < (y128.length : Int)) = false:=decide_eq_false c43
             clear c43
             have H':=aM_ H
             clear H
             go_wp2
             go_roundg k3
             case measure=>have:=HK1.out;have:=HK2.out;have:=HK3.out;omega
             case rel=>exact ⟨(wrap64 (x38_2 + 1)),(by first | rfl | (simp;done) | (simp [*];done)),H', ⟨by have:=HK1.out;have:=HK2.out;have:=HK3.out;omega⟩,⟨by exact kZ_ BK117⟩,⟨by exact bZ_ HB⟩⟩
         ·rw [if_neg c36] at H
          exact absurd H (by simp)
        ·rw [if_neg c34] at H
         exact absurd H (by simp)
       ·rw [if_neg c33] at H
        exact absurd H (by simp)
      ·rw [if_neg c32] at H
       have c32b0 : decide (x38_2 < (l0_3.length : Int)) = false:=decide_eq_false c32
       clear c32
       obtain rfl:=Option.some.inj H
       go_wp2
       go_ret
       exact ⟨by first | rfl | (simp [errW_none,errW_some] <;> rfl) | (simp [*, errW_none,errW_some] <;> rfl),by exact bZ_ HB⟩
end Go.Proofs.YtipehkeabnfngaaDoor.PFnExactDefText
