import Derived.Test.YtipehkeabnfngaaDoorZDSPFnExactDefsTextx0
import Derived.Test.YtipehkeabnfngaaDoorZDSPFnExactDefsTextx6
namespace Go.Proofs.YtipehkeabnfngaaDoor.PFnExactDefsText
open Go.RowKit Go.Proofs.YtipehkeabnfngaaDoorW.PrintWords Go.Proofs.YtipehkeabnfngaaDoorW.PrintLast Go.Proofs.YtipehkeabnfngaaDoorW.PrintMore Go.Proofs.YtipehkeabnfngaaDoor.Xtra
attribute [local go_sem] max2_int min2_int max_two min_two max_three min_three max_four min_four str_leq str_gtr str_geq setCell_drewN cell_set2 cell_set3   -- for this text's walks alone
set_option linter.unusedVariables false
set_option linter.unusedSimpArgs false
mutual
def spec_l9Once.l0 : Nat → Int → ByteArray → List (S82) → List (S85) → List (S69) → Option (Bool)
 | 0,_,_,_,_,_=>none
 | k + 1,x3,x226000,x226001,x226002,x226003=>if x3 < (x226001.length : Int) then (if 0 ≤ x3 then ((spec_l9Col.f k x226000 x226001 x226002 x226003 ((rd_T82 x226001 x3).f0)).bind fun t227=>(if t227 = x3 then (spec_l9Once.l0 k (wrap64 (x3 + 1)) x226000 x226001 x226002 x226003) else (some false))) else (none)) else (spec_l9Once.l1 k 0 x226000 x226001 x226002 x226003)
def spec_l9Once.l1 : Nat → Int → ByteArray → List (S82) → List (S85) → List (S69) → Option (Bool)
 | 0,_,_,_,_,_=>none
 | k + 1,x4,x226000,x226001,x226002,x226003=>if x4 < (x226003.length : Int) then (spec_l9Once.l2 k x4 0 x226000 x226001 x226002 x226003) else (some true)
def spec_l9Once.l2 : Nat → Int → Int → ByteArray → List (S82) → List (S85) → List (S69) → Option (Bool)
 | 0,_,_,_,_,_,_=>none
 | k + 1,x4,x5,x226000,x226001,x226002,x226003=>if x5 < x4 then (if 0 ≤ x5 then (if x5 < (x226003.length : Int) then (if 0 ≤ x4 then (if x4 < (x226003.length : Int) then (if ((rd_T69 x226003 x5).f0).toList = ((rd_T69 x226003 x4).f0).toList then (some false) else (spec_l9Once.l2 k x4 (wrap64 (x5 + 1)) x226000 x226001 x226002 x226003)) else (none)) else (none)) else (none)) else (none)) else (spec_l9Once.l1 k (wrap64 (x4 + 1)) x226000 x226001 x226002 x226003)
end
def spec_l9Once.f (k : Nat) (a0_0 : ByteArray) (l0_1 : List (S82)) (l0_2 : List (S85)) (l0_3 : List (S69)) : Option (Bool):=spec_l9Once.l0 k 0 a0_0 l0_1 l0_2 l0_3
theorem spec_l9Once.mono_l : ∀ k,(∀ y0 y1 y2 y3 y4,LeO (spec_l9Once.l0 k y0 y1 y2 y3 y4) (spec_l9Once.l0 (k + 1) y0 y1 y2 y3 y4)) ∧ (∀ y0 y1 y2 y3 y4,LeO (spec_l9Once.l1 k y0 y1 y2 y3 y4) (spec_l9Once.l1 (k + 1) y0 y1 y2 y3 y4)) ∧ (∀ y0 y1 y2 y3 y4 y5,LeO (spec_l9Once.l2 k y0 y1 y2 y3 y4 y5) (spec_l9Once.l2 (k + 1) y0 y1 y2 y3 y4 y5))
 | 0=>⟨fun _ _ _ _ _ r h=>by simp [spec_l9Once.l0] at h,fun _ _ _ _ _ r h=>by simp [spec_l9Once.l1] at h,fun _ _ _ _ _ _ r h=>by simp [spec_l9Once.l2] at h⟩
 | k + 1=>by
  obtain ⟨ih0,ih1,ih2⟩:=spec_l9Once.mono_l k
  refine ⟨?_,?_,?_⟩
  ·intro y0 y1 y2 y3 y4
   unfold spec_l9Once.l0
   repeat' first
   | (with_reducible exact ih0 _ _ _ _ _)
   | (with_reducible exact ih1 _ _ _ _ _)
   | (with_reducible exact ih2 _ _ _ _ _ _)
   | (with_reducible exact spec_l9Col.mono _ _ _ _ _ _)
   | (with_reducible exact LeO.refl _)
   | (with_reducible exact LeO.none _)
   | (with_reducible refine LeO.ite ?_ ?_)
   | (with_reducible refine LeO.bind ?_ (fun _=>?_))
   | exact ih0 _ _ _ _ _
   | exact ih1 _ _ _ _ _
   | exact ih2 _ _ _ _ _ _
   | exact spec_l9Col.mono _ _ _ _ _ _
   | exact LeO.none _
   | refine LeO.ite ?_ ?_
   | refine LeO.bind ?_ (fun _=>?_)
  ·intro y0 y1 y2 y3 y4
   unfold spec_l9Once.l1
   repeat' first
   | (with_reducible exact ih0 _ _ _ _ _)
   | (with_reducible exact ih1 _ _ _ _ _)
   | (with_reducible exact ih2 _ _ _ _ _ _)
   | (with_reducible exact spec_l9Col.mono _ _ _ _ _ _)
   | (with_reducible exact LeO.refl _)
   | (with_reducible exact LeO.none _)
   | (with_reducible refine LeO.ite ?_ ?_)
   | (with_reducible refine LeO.bind ?_ (fun _=>?_))
   | exact ih0 _ _ _ _ _
   | exact ih1 _ _ _ _ _
   | exact ih2 _ _ _ _ _ _
   | exact spec_l9Col.mono _ _ _ _ _ _
   | exact LeO.none _
   | refine LeO.ite ?_ ?_
   | refine LeO.bind ?_ (fun _=>?_)
  ·intro y0 y1 y2 y3 y4 y5
   unfold spec_l9Once.l2
   repeat' first
   | (with_reducible exact ih0 _ _ _ _ _)
   | (with_reducible exact ih1 _ _ _ _ _)
   | (with_reducible exact ih2 _ _ _ _ _ _)
   | (with_reducible exact spec_l9Col.mono _ _ _ _ _ _)
   | (with_reducible exact LeO.refl _)
   | (with_reducible exact LeO.none _)
   | (with_reducible refine LeO.ite ?_ ?_)
   | (with_reducible refine LeO.bind ?_ (fun _=>?_))
   | exact ih0 _ _ _ _ _
   | exact ih1 _ _ _ _ _
   | exact ih2 _ _ _ _ _ _
   | exact spec_l9Col.mono _ _ _ _ _ _
   | exact LeO.none _
   | refine LeO.ite ?_ ?_
   | refine LeO.bind ?_ (fun _=>?_)
theorem spec_l9Once.mono : ∀ a0 a1 a2 a3 k,LeO (spec_l9Once.f k a0 a1 a2 a3) (spec_l9Once.f (k + 1) a0 a1 a2 a3):=by
 intro a0 a1 a2 a3 k
 obtain ⟨ih0,ih1,ih2⟩:=spec_l9Once.mono_l k
 unfold spec_l9Once.f
 repeat' first
   | (with_reducible exact ih0 _ _ _ _ _)
   | (with_reducible exact ih1 _ _ _ _ _)
   | (with_reducible exact ih2 _ _ _ _ _ _)
   | (with_reducible exact spec_l9Col.mono _ _ _ _ _ _)
   | (with_reducible exact LeO.refl _)
   | (with_reducible exact LeO.none _)
   | (with_reducible refine LeO.ite ?_ ?_)
   | (with_reducible refine LeO.bind ?_ (fun _=>?_))
   | exact ih0 _ _ _ _ _
   | exact ih1 _ _ _ _ _
   | exact ih2 _ _ _ _ _ _
   | exact spec_l9Col.mono _ _ _ _ _ _
   | exact LeO.none _
   | refine LeO.ite ?_ ?_
   | refine LeO.bind ?_ (fun _=>?_)
def spec_l9Once.T4 : Bool × List (List Nat × List Nat):=(true,[([],[]),([],[]),([1],[1]),([],[]),([2,3],[2,3]),([4],[4]),([5],[5]),([0,6],[0,6]),([],[]),([7,8],[7,8])])
def spec_l9Once.B4 : List Nat:=[0,0,2,0,14,30,62,127,0,511]
theorem spec_l9Once.tab4 : rtab .any (opsOf Tryd.f62 4) = spec_l9Once.T4:=by kernel_rfl
theorem spec_l9Once.bits4 : waitsOk spec_l9Once.T4.2 spec_l9Once.B4 = true:=by kernel_rfl
def spec_l9Once.T12 : Bool × List (List Nat × List Nat):=(true,[([],[]),([0],[0]),([],[]),([1,2],[1,2]),([3],[3]),([4],[4]),([],[]),([6],[6]),([],[]),([7,8],[7,8]),([9],[9]),([10],[10]),([5,11],[5,11])])
def spec_l9Once.B12 : List Nat:=[0,1,0,7,15,31,0,64,0,448,960,1984,4095]
theorem spec_l9Once.tab12 : rtab .any (opsOf Tryd.f62 12) = spec_l9Once.T12:=by kernel_rfl
theorem spec_l9Once.bits12 : waitsOk spec_l9Once.T12.2 spec_l9Once.B12 = true:=by kernel_rfl
set_option maxHeartbeats 8000000 in
set_option maxRecDepth 100000 in
theorem spec_l9Once.calls (k : Nat) (a0_0 : ByteArray) (A0_1 : Option Addr) (c0_1 : Nat) (l0_1 : List (S82)) (A0_2 : Option Addr) (c0_2 : Nat) (l0_2 : List (S85)) (A0_3 : Option Addr) (c0_3 : Nat) (l0_3 : List (S69)) (r : Bool) (w : World) (hr0_1 : Kd.C k82 w A0_1 l0_1.length l0_1) (hc0_1 : l0_1.length ≤ c0_1) (hr0_2 : Kd.C k85 w A0_2 l0_2.length l0_2) (hc0_2 : l0_2.length ≤ c0_2) (hr0_3 : Kd.C k69 w A0_3 l0_3.length l0_3) (hc0_3 : l0_3.length ≤ c0_3) (h : spec_l9Once.f k a0_0 l0_1 l0_2 l0_3 = some r) :
  Calls Tryd.prog 62 #[.agg #[.string a0_0,.slice A0_1 l0_1.length c0_1,.slice A0_2 l0_2.length c0_2,.slice A0_3 l0_3.length c0_3]] w fun e w'=>e = .returned (.bool r) ∧ Below w.heap.size w w':=by
 have hu35:=Tryd.underlying35
 have HR0_1:=aM_ hr0_1
 have HC0_1:=aM_ hc0_1
 clear hr0_1 hc0_1
 have HR0_2:=aM_ hr0_2
 have HC0_2:=aM_ hc0_2
 clear hr0_2 hc0_2
 have HR0_3:=aM_ hr0_3
 have HC0_3:=aM_ hc0_3
 clear hr0_3 hc0_3
 have HB:=aM_ (Below.refl w.heap.size w)
 have H : (spec_l9Once.l0 k 0 a0_0 l0_1 l0_2 l0_3) = some r:=h
 clear h
 have H':=aM_ H
 clear H
 go_enter Tryd.func62,Tryd.ntmps62
 go_wp2_with (first | ((with_reducible refine gate_dst (N:=1) rfl ?_);refine box_event ?hg (N:=1) ?hd (cs:=#[.string a0_0,.slice A0_1 l0_1.length c0_1,.slice A0_2 l0_2.length c0_2,.slice A0_3 l0_3.length c0_3]) (t:=35) ?hr ?_;(case hd=>rfl);(case hg=>rfl);(case hr=>first | (go_simp;done) | (go_simp;rfl));intro gb225 hg w2 hbox hb;have n0_:=aM_ (bT_ (by exact bZ_ HB) hb);have n1_:=aM_ (hbox);have n2_:=aM_ ((by rw [hg];exact (bS_ (by exact bZ_ HB)) : w.heap.size ≤ gb225));have n3_:=aM_ ((by rw [hg];exact (bS_ (by exact bZ_ HB)) : w.heap.size ≤ gb225));clear HB;have HB:=n0_;have BK225:=n1_;have GW225:=n2_;have GE225:=n3_;clear n0_ n1_ n2_ n3_ hb hbox hg))
 (try simp only [Act.put,sI_,sS_,sZ_])
 go_loopg [3] k (fun kq v3 w'=>∃ (x3_1 : Int),v3 = .int .i64 x3_1 ∧ Aside0 (spec_l9Once.l0 kq x3_1 a0_0 l0_1 l0_2 l0_3 = some r) ∧ Aside0 (kq ≤ k) ∧ Aside0 (w'.heap[gb225]? = some (.cells #[.string a0_0,(.slice A0_1 l0_1.length c0_1),(.slice A0_2 l0_2.length c0_2),(.slice A0_3 l0_3.length c0_3)] 35 (0,0))) ∧ Aside0 (Below w.heap.size w w'))
 case atStart=>exact ⟨(0),(by first | rfl | (simp;done) | (simp [*];done)),H', ⟨Nat.le_refl _⟩,⟨by exact kZ_ BK225⟩,⟨by exact bZ_ HB⟩⟩
 case round =>
  clear H'
  obtain ⟨x3_1,rfl,HA,HK1,BK225,HB⟩:=hrel
  cases gk with
  | zero=>exact absurd HA.out (by simp [spec_l9Once.l0])
  | succ k1 =>
   have H:=HA.out
   clear HA
   simp only [spec_l9Once.l0] at H
   by_cases c3 : x3_1 < (l0_1.length : Int)
   ·rw [if_pos c3] at H
    have c3b0 : decide (x3_1 < (l0_1.length : Int)) = true:=decide_eq_true c3
    clear c3
    by_cases c4 : 0 ≤ x3_1
    ·rw [if_pos c4] at H
     have c4b0 : decide (0 ≤ x3_1) = true:=decide_eq_true c4
     clear c4
     replace H:=oB_ H
     obtain ⟨t227,A50,H⟩:=H
     replace H : (if t227 = x3_1 then (spec_l9Once.l0 k1 (wrap64 (x3_1 + 1)) a0_0 l0_1 l0_2 l0_3) else (some false)) = some r:=H
     have A5:=aM_ A50
     clear A50
     by_cases c6 : t227 = x3_1
     ·rw [if_pos c6] at H
      have c6b0 : (t227 == x3_1) = true:=beq_iff_eq.mpr c6
      have c6b1 : (t227 != x3_1) = false:=bne_eq_false_iff_eq.mpr c6
      clear c6
      have H':=aM_ H
      clear H
      have hcz7_0 : wr.cell? ⟨gb225,0,none⟩ = some (.string a0_0):=(kC_ BK225.out 0).trans rfl
      have hcz7_1 : wr.cell? ⟨gb225,1,none⟩ = some (.slice A0_1 l0_1.length c0_1):=(kC_ BK225.out 1).trans rfl
      have hcz7_2 : wr.cell? ⟨gb225,2,none⟩ = some (.slice A0_2 l0_2.length c0_2):=(kC_ BK225.out 2).trans rfl
      have hcz7_3 : wr.cell? ⟨gb225,3,none⟩ = some (.slice A0_3 l0_3.length c0_3):=(kC_ BK225.out 3).trans rfl
      have hfz7_0:=kF_ BK225.out 0
      have hfz7_1:=kF_ BK225.out 1
      have hfz7_2:=kF_ BK225.out 2
      have hfz7_3:=kF_ BK225.out 3
      try go_wp2
      have n0_:=aM_ (kD_ BK225.out)
      have n1_:=aM_ (bD_ HB.out)
      clear BK225 HB
      have BK225:=n0_
      have HB:=n1_
      clear n0_ n1_
      have p226 : 0 ≤ (x3_1 : Int):=oT_ (by first | (with_reducible assumption) | assumption)
      have q226 : x3_1 < (l0_1.length : Int):=oT_ (by first | (with_reducible assumption) | assumption)
      obtain ⟨ad226,e226,hx226_0,hx226_1,hx226_2⟩:=at_T82 HR0_1.out x3_1 p226 q226
      have hw226_2:=hx226_2
      have hw226_1:=hx226_1
      have hw226_0:=hx226_0
      cases e226
      replace hx226_0:=(HB.out.cell (wL_ w _ hx226_0)).trans hx226_0
      replace hx226_1:=(HB.out.cell (wL_ w _ hx226_1)).trans hx226_1
      replace hx226_2:=(HB.out.cell (wL_ w _ hx226_2)).trans hx226_2
      replace p226:=eq_true p226
      replace q226:=eq_true q226
      refine start_ (n:=10) (S:=fun w'=>w'.cell? ⟨gb225,0,none⟩ = some (.string a0_0) ∧ w'.cell? ⟨gb225,1,none⟩ = some (.slice (some ad226) l0_1.length c0_1) ∧ w'.cell? ⟨gb225,2,none⟩ = some (.slice A0_2 l0_2.length c0_2) ∧ w'.cell? ⟨gb225,3,none⟩ = some (.slice A0_3 l0_3.length c0_3) ∧ w'.cell? (ad226.add ((x3_1).toNat * 3)) = some (.string ((rd_T82 l0_1 x3_1).f0)) ∧ w'.cell? ⟨(ad226.add ((x3_1).toNat * 3)).block,(ad226.add ((x3_1).toNat * 3)).off + 1,none⟩ = some (.int .i64 ((rd_T82 l0_1 x3_1).f1)) ∧ w'.cell? ⟨(ad226.add ((x3_1).toNat * 3)).block,(ad226.add ((x3_1).toNat * 3)).off + 2,none⟩ = some (.bool ((rd_T82 l0_1 x3_1).f2))) (ds:=[]) (tb_ 0 10) (by kernel_rfl) rfl rfl ⟨(kC_ BK225.out 0).trans rfl,(kC_ BK225.out 1).trans rfl,(kC_ BK225.out 2).trans rfl,(kC_ BK225.out 3).trans rfl,((HB.out.cell (wL_ w _ hw226_0)).trans hw226_0),((HB.out.cell (wL_ w _ hw226_1)).trans hw226_1),((HB.out.cell (wL_ w _ hw226_2)).trans hw226_2)⟩ (fun hHeld=>?_);refine with_tabW spec_l9Once.tab4 spec_l9Once.bits4 (fun HT_ HW_=>?_)
      generalize wr.drew = w8 at BK225 HB hx226_0 hx226_1 hx226_2 hHeld ⊢
      refine pure_ (i:=1) (N:=some 14) (v:=?_) (a':=?_) #[false,true,false,false,false,false,false,false,false,false] rfl rfl (any_of HT_.out (by kernel_rfl)) (fun _ _ _ h=>h) (Or.inl ⟨by rfl,?_⟩) ?_ ?_
      rotate_left
      ·intro w'
       go_simp
       with_reducible rfl
      rotate_left
      ·simp only [Act.put,sI_,sZ_,sS_,i64_w,i32_w]
       rfl
      refine pure_ (i:=3) (N:=some 16) (v:=?_) (a':=?_) #[false,true,false,true,false,false,false,false,false,false] rfl rfl (any_of HT_.out (by kernel_rfl)) (fun _ _ _ h=>h) (Or.inl ⟨by rfl,?_⟩) ?_ ?_
      rotate_left
      ·intro w'
       go_simp
       with_reducible rfl
      rotate_left
      ·simp only [Act.put,sI_,sZ_,sS_,i64_w,i32_w]
       rfl
      refine pure_ (i:=8) (N:=some 21) (v:=?_) (a':=?_) #[false,true,false,true,false,false,false,false,true,false] rfl rfl (any_of HT_.out (by kernel_rfl)) (fun _ _ _ h=>h) (Or.inl ⟨by rfl,?_⟩) ?_ ?_
      rotate_left
      ·intro w'
       go_simp
       with_reducible rfl
      rotate_left
      ·simp only [Act.put,sI_,sZ_,sS_,i64_w,i32_w]
       rfl
      refine take_ (i:=0) (N:=some 13) (v:=?_) (a':=?_) #[true,true,false,true,false,false,false,false,true,false] rfl rfl (take_ofW HT_.out HW_.out (by kernel_rfl)) (fun _ _ _ h=>h) (Or.inl ⟨by rfl,?_⟩) hHeld ?_ ?_
      rotate_left
      ·rintro w' ⟨s0,s1,s2,s3,s4,s5,s6⟩
       go_simp
       with_reducible rfl
      rotate_left
      ·simp only [Act.put,sI_,sZ_,sS_,i64_w,i32_w]
       rfl
      refine take_ (i:=2) (N:=some 15) (v:=?_) (a':=?_) #[true,true,true,true,false,false,false,false,true,false] rfl rfl (take_ofW HT_.out HW_.out (by kernel_rfl)) (fun _ _ _ h=>h) (Or.inl ⟨by rfl,?_⟩) hHeld ?_ ?_
      rotate_left
      ·rintro w' ⟨s0,s1,s2,s3,s4,s5,s6⟩
       go_simp
       with_reducible rfl
      rotate_left
      ·simp only [Act.put,sI_,sZ_,sS_,i64_w,i32_w]
       rfl
      refine pure_ (i:=4) (N:=some 17) (v:=?_) (a':=?_) #[true,true,true,true,true,false,false,false,true,false] rfl rfl (any_of HT_.out (by kernel_rfl)) (fun _ _ _ h=>h) (Or.inl ⟨by rfl,?_⟩) ?_ ?_
      rotate_left
      ·intro w'
       go_simp
       with_reducible rfl
      rotate_left
      ·simp only [Act.put,sI_,sZ_,sS_,i64_w,i32_w]
       rfl
      refine pure_ (i:=5) (N:=some 18) (v:=?_) (a':=?_) #[true,true,true,true,true,true,false,false,true,false] rfl rfl (any_of HT_.out (by kernel_rfl)) (fun _ _ _ h=>h) (Or.inl ⟨by rfl,?_⟩) ?_ ?_
      rotate_left
      ·intro w'
       go_simp
       with_reducible rfl
      rotate_left
      ·simp only [Act.put,sI_,sZ_,sS_,i64_w,i32_w]
       rfl
      refine take_ (i:=6) (N:=some 19) (v:=?_) (a':=?_) #[true,true,true,true,true,true,true,false,true,false] rfl rfl (take_ofW HT_.out HW_.out (by kernel_rfl)) (fun _ _ _ h=>h) (Or.inl ⟨by rfl,?_⟩) hHeld ?_ ?_
      rotate_left
      ·rintro w' ⟨s0,s1,s2,s3,s4,s5,s6⟩
       go_simp
       with_reducible rfl
      rotate_left
      ·simp only [Act.put,sI_,sZ_,sS_,i64_w,i32_w]
       rfl
      refine one_ (i:=7) (N:=some 20) (tb_ 9 1) rfl rfl (one_of HT_.out (by kernel_rfl)) (by decide) (fun K hK=>?_)
      refine goes_ Tryd.func108 (by kernel_rfl) rfl #[.agg #[.string a0_0,.slice (some ad226) l0_1.length c0_1,.slice A0_2 l0_2.length c0_2,.slice A0_3 l0_3.length c0_3],.string ((rd_T82 l0_1 x3_1).f0)] (by rfl) rfl rfl (by (try simp only [mA_,mC_,mN_]);first | done | rfl | (simp only [lD_,lT_];rfl)) ?_
      with_reducible refine (spec_l9Col.calls k1 a0_0 _ _ l0_1 _ _ l0_2 _ _ l0_3 ((rd_T82 l0_1 x3_1).f0) t227 _ ?side1 ?side2 ?side3 ?side4 ?side5 ?side6 A5.out).mono ?_
      (case side1=>exact cZ_ HR0_1 HB)
      (case side2=>exact HC0_1.out)
      (case side3=>exact cZ_ HR0_2 HB)
      (case side4=>exact HC0_2.out)
      (case side5=>exact cZ_ HR0_3 HB)
      (case side6=>exact HC0_3.out)
      rintro e w9 ⟨rfl,hb⟩
      refine ⟨_,rfl,?_⟩
      have n0_:=aM_ (blk_below (g:=gb225) (o:=.cells #[.string a0_0,.slice (some ad226) l0_1.length c0_1,.slice A0_2 l0_2.length c0_2,.slice A0_3 l0_3.length c0_3] 35 (0,0)) (by exact kZ_ BK225) hb)
      have n1_:=aM_ (bT_ (by exact bZ_ HB) hb)
      clear BK225 HB
      have BK225:=n0_
      have HB:=n1_
      clear n0_ n1_ hb
      skip
      skip
      skip
      refine hK.out _ _ ⟨(kC_ BK225.out 0).trans rfl,(kC_ BK225.out 1).trans rfl,(kC_ BK225.out 2).trans rfl,(kC_ BK225.out 3).trans rfl,((HB.out.cell (wL_ w _ hw226_0)).trans hw226_0),((HB.out.cell (wL_ w _ hw226_1)).trans hw226_1),((HB.out.cell (wL_ w _ hw226_2)).trans hw226_2)⟩ (fun hHeld=>?_)
      clear hK K
      refine norm_ (a':=?_) ?_ ?_
      rotate_left
      ·show Act.put _ (some 20) _ = _
       simp only [Act.put,sI_,sZ_,sS_,i64_w,i32_w]
       rfl
      refine pure_ (i:=9) (N:=some 22) (v:=?_) (a':=?_) (tb_ 10 0) rfl rfl (any_of HT_.out (by kernel_rfl)) (fun _ _ _ h=>h) (Or.inl ⟨by rfl,?_⟩) ?_ ?_
      rotate_left
      ·intro w'
       go_simp
       with_reducible rfl
      rotate_left
      ·simp only [Act.put,sI_,sZ_,sS_,i64_w,i32_w]
       rfl
      refine done_ (done_of HT_.out (by kernel_rfl)) ?_
      try go_wp2
      go_roundg k1
      case measure=>have:=HK1.out;omega
      case rel=>exact ⟨(wrap64 (x3_1 + 1)),(by first | rfl | (simp;done) | (simp [*];done)),H', ⟨by have:=HK1.out;omega⟩,⟨by exact kZ_ BK225⟩,⟨by exact bZ_ HB⟩⟩
     ·rw [if_neg c6] at H
      have c6b0 : (t227 == x3_1) = false:=beq_eq_false_iff_ne.mpr c6
      have c6b1 : (t227 != x3_1) = true:=bne_iff_ne.mpr c6
      obtain rfl:=Option.some.inj H
      have hcz10_0 : wr.cell? ⟨gb225,0,none⟩ = some (.string a0_0):=(kC_ BK225.out 0).trans rfl
      have hcz10_1 : wr.cell? ⟨gb225,1,none⟩ = some (.slice A0_1 l0_1.length c0_1):=(kC_ BK225.out 1).trans rfl
      have hcz10_2 : wr.cell? ⟨gb225,2,none⟩ = some (.slice A0_2 l0_2.length c0_2):=(kC_ BK225.out 2).trans rfl
      have hcz10_3 : wr.cell? ⟨gb225,3,none⟩ = some (.slice A0_3 l0_3.length c0_3):=(kC_ BK225.out 3).trans rfl
      have hfz10_0:=kF_ BK225.out 0
      have hfz10_1:=kF_ BK225.out 1
      have hfz10_2:=kF_ BK225.out 2
      have hfz10_3:=kF_ BK225.out 3
      try go_wp2
      have n0_:=aM_ (kD_ BK225.out)
      have n1_:=aM_ (bD_ HB.out)
      clear BK225 HB
      have BK225:=n0_
      have HB:=n1_
      clear n0_ n1_
      have p226 : 0 ≤ (x3_1 : Int):=oT_ (by first | (with_reducible assumption) | assumption)
      have q226 : x3_1 < (l0_1.length : Int):=oT_ (by first | (with_reducible assumption) | assumption)
      obtain ⟨ad226,e226,hx226_0,hx226_1,hx226_2⟩:=at_T82 HR0_1.out x3_1 p226 q226
      have hw226_2:=hx226_2
      have hw226_1:=hx226_1
      have hw226_0:=hx226_0
      cases e226
      replace hx226_0:=(HB.out.cell (wL_ w _ hx226_0)).trans hx226_0
      replace hx226_1:=(HB.out.cell (wL_ w _ hx226_1)).trans hx226_1
      replace hx226_2:=(HB.out.cell (wL_ w _ hx226_2)).trans hx226_2
      replace p226:=eq_true p226
      replace q226:=eq_true q226
      refine start_ (n:=10) (S:=fun w'=>w'.cell? ⟨gb225,0,none⟩ = some (.string a0_0) ∧ w'.cell? ⟨gb225,1,none⟩ = some (.slice (some ad226) l0_1.length c0_1) ∧ w'.cell? ⟨gb225,2,none⟩ = some (.slice A0_2 l0_2.length c0_2) ∧ w'.cell? ⟨gb225,3,none⟩ = some (.slice A0_3 l0_3.length c0_3) ∧ w'.cell? (ad226.add ((x3_1).toNat * 3)) = some (.string ((rd_T82 l0_1 x3_1).f0)) ∧ w'.cell? ⟨(ad226.add ((x3_1).toNat * 3)).block,(ad226.add ((x3_1).toNat * 3)).off + 1,none⟩ = some (.int .i64 ((rd_T82 l0_1 x3_1).f1)) ∧ w'.cell? ⟨(ad226.add ((x3_1).toNat * 3)).block,(ad226.add ((x3_1).toNat * 3)).off + 2,none⟩ = some (.bool ((rd_T82 l0_1 x3_1).f2))) (ds:=[]) (tb_ 0 10) (by kernel_rfl) rfl rfl ⟨(kC_ BK225.out 0).trans rfl,(kC_ BK225.out 1).trans rfl,(kC_ BK225.out 2).trans rfl,(kC_ BK225.out 3).trans rfl,((HB.out.cell (wL_ w _ hw226_0)).trans hw226_0),((HB.out.cell (wL_ w _ hw226_1)).trans hw226_1),((HB.out.cell (wL_ w _ hw226_2)).trans hw226_2)⟩ (fun hHeld=>?_);refine with_tabW spec_l9Once.tab4 spec_l9Once.bits4 (fun HT_ HW_=>?_)
      generalize wr.drew = w11 at BK225 HB hx226_0 hx226_1 hx226_2 hHeld ⊢
      refine pure_ (i:=1) (N:=some 14) (v:=?_) (a':=?_) #[false,true,false,false,false,false,false,false,false,false] rfl rfl (any_of HT_.out (by kernel_rfl)) (fun _ _ _ h=>h) (Or.inl ⟨by rfl,?_⟩) ?_ ?_
      rotate_left
      ·intro w'
       go_simp
       with_reducible rfl
      rotate_left
      ·simp only [Act.put,sI_,sZ_,sS_,i64_w,i32_w]
       rfl
      refine pure_ (i:=3) (N:=some 16) (v:=?_) (a':=?_) #[false,true,false,true,false,false,false,false,false,false] rfl rfl (any_of HT_.out (by kernel_rfl)) (fun _ _ _ h=>h) (Or.inl ⟨by rfl,?_⟩) ?_ ?_
      rotate_left
      ·intro w'
       go_simp
       with_reducible rfl
      rotate_left
      ·simp only [Act.put,sI_,sZ_,sS_,i64_w,i32_w]
       rfl
      refine pure_ (i:=8) (N:=some 21) (v:=?_) (a':=?_) #[false,true,false,true,false,false,false,false,true,false] rfl rfl (any_of HT_.out (by kernel_rfl)) (fun _ _ _ h=>h) (Or.inl ⟨by rfl,?_⟩) ?_ ?_
      rotate_left
      ·intro w'
       go_simp
       with_reducible rfl
      rotate_left
      ·simp only [Act.put,sI_,sZ_,sS_,i64_w,i32_w]
       rfl
      refine take_ (i:=0) (N:=some 13) (v:=?_) (a':=?_) #[true,true,false,true,false,false,false,false,true,false] rfl rfl (take_ofW HT_.out HW_.out (by kernel_rfl)) (fun _ _ _ h=>h) (Or.inl ⟨by rfl,?_⟩) hHeld ?_ ?_
      rotate_left
      ·rintro w' ⟨s0,s1,s2,s3,s4,s5,s6⟩
       go_simp
       with_reducible rfl
      rotate_left
      ·simp only [Act.put,sI_,sZ_,sS_,i64_w,i32_w]
       rfl
      refine take_ (i:=2) (N:=some 15) (v:=?_) (a':=?_) #[true,true,true,true,false,false,false,false,true,false] rfl rfl (take_ofW HT_.out HW_.out (by kernel_rfl)) (fun _ _ _ h=>h) (Or.inl ⟨by rfl,?_⟩) hHeld ?_ ?_
      rotate_left
      ·rintro w' ⟨s0,s1,s2,s3,s4,s5,s6⟩
       go_simp
       with_reducible rfl
      rotate_left
      ·simp only [Act.put,sI_,sZ_,sS_,i64_w,i32_w]
       rfl
      refine pure_ (i:=4) (N:=some 17) (v:=?_) (a':=?_) #[true,true,true,true,true,false,false,false,true,false] rfl rfl (any_of HT_.out (by kernel_rfl)) (fun _ _ _ h=>h) (Or.inl ⟨by rfl,?_⟩) ?_ ?_
      rotate_left
      ·intro w'
       go_simp
       with_reducible rfl
      rotate_left
      ·simp only [Act.put,sI_,sZ_,sS_,i64_w,i32_w]
       rfl
      refine pure_ (i:=5) (N:=some 18) (v:=?_) (a':=?_) #[true,true,true,true,true,true,false,false,true,false] rfl rfl (any_of HT_.out (by kernel_rfl)) (fun _ _ _ h=>h) (Or.inl ⟨by rfl,?_⟩) ?_ ?_
      rotate_left
      ·intro w'
       go_simp
       with_reducible rfl
      rotate_left
      ·simp only [Act.put,sI_,sZ_,sS_,i64_w,i32_w]
       rfl
      refine take_ (i:=6) (N:=some 19) (v:=?_) (a':=?_) #[true,true,true,true,true,true,true,false,true,false] rfl rfl (take_ofW HT_.out HW_.out (by kernel_rfl)) (fun _ _ _ h=>h) (Or.inl ⟨by rfl,?_⟩) hHeld ?_ ?_
      rotate_left
      ·rintro w' ⟨s0,s1,s2,s3,s4,s5,s6⟩
       go_simp
       with_reducible rfl
      rotate_left
      ·simp only [Act.put,sI_,sZ_,sS_,i64_w,i32_w]
       rfl
      refine one_ (i:=7) (N:=some 20) (tb_ 9 1) rfl rfl (one_of HT_.out (by kernel_rfl)) (by decide) (fun K hK=>?_)
      refine goes_ Tryd.func108 (by kernel_rfl) rfl #[.agg #[.string a0_0,.slice (some ad226) l0_1.length c0_1,.slice A0_2 l0_2.length c0_2,.slice A0_3 l0_3.length c0_3],.string ((rd_T82 l0_1 x3_1).f0)] (by rfl) rfl rfl (by (try simp only [mA_,mC_,mN_]);first | done | rfl | (simp only [lD_,lT_];rfl)) ?_
      with_reducible refine (spec_l9Col.calls k1 a0_0 _ _ l0_1 _ _ l0_2 _ _ l0_3 ((rd_T82 l0_1 x3_1).f0) t227 _ ?side1 ?side2 ?side3 ?side4 ?side5 ?side6 A5.out).mono ?_
      (case side1=>exact cZ_ HR0_1 HB)
      (case side2=>exact HC0_1.out)
      (case side3=>exact cZ_ HR0_2 HB)
      (case side4=>exact HC0_2.out)
      (case side5=>exact cZ_ HR0_3 HB)
      (case side6=>exact HC0_3.out)
      rintro e w12 ⟨rfl,hb⟩
      refine ⟨_,rfl,?_⟩
      have n0_:=aM_ (blk_below (g:=gb225) (o:=.cells #[.string a0_0,.slice (some ad226) l0_1.length c0_1,.slice A0_2 l0_2.length c0_2,.slice A0_3 l0_3.length c0_3] 35 (0,0)) (by exact kZ_ BK225) hb)
      have n1_:=aM_ (bT_ (by exact bZ_ HB) hb)
      clear BK225 HB
      have BK225:=n0_
      have HB:=n1_
      clear n0_ n1_ hb
      skip
      skip
      skip
      refine hK.out _ _ ⟨(kC_ BK225.out 0).trans rfl,(kC_ BK225.out 1).trans rfl,(kC_ BK225.out 2).trans rfl,(kC_ BK225.out 3).trans rfl,((HB.out.cell (wL_ w _ hw226_0)).trans hw226_0),((HB.out.cell (wL_ w _ hw226_1)).trans hw226_1),((HB.out.cell (wL_ w _ hw226_2)).trans hw226_2)⟩ (fun hHeld=>?_)
      clear hK K
      refine norm_ (a':=?_) ?_ ?_
      rotate_left
      ·show Act.put _ (some 20) _ = _
       simp only [Act.put,sI_,sZ_,sS_,i64_w,i32_w]
       rfl
      refine pure_ (i:=9) (N:=some 22) (v:=?_) (a':=?_) (tb_ 10 0) rfl rfl (any_of HT_.out (by kernel_rfl)) (fun _ _ _ h=>h) (Or.inl ⟨by rfl,?_⟩) ?_ ?_
      rotate_left
      ·intro w'
       go_simp
       with_reducible rfl
      rotate_left
      ·simp only [Act.put,sI_,sZ_,sS_,i64_w,i32_w]
       rfl
      refine done_ (done_of HT_.out (by kernel_rfl)) ?_
      try go_wp2
      go_ret
      exact ⟨by first | rfl | (simp [errW_none,errW_some] <;> rfl) | (simp [*, errW_none,errW_some] <;> rfl),by exact bZ_ HB⟩
    ·rw [if_neg c4] at H
     exact absurd H (by simp)
   ·rw [if_neg c3] at H
    have c3b0 : decide (x3_1 < (l0_1.length : Int)) = false:=decide_eq_false c3
    clear c3
    have H':=aM_ H
    clear H
    have hcz13_0 : wr.cell? ⟨gb225,0,none⟩ = some (.string a0_0):=(kC_ BK225.out 0).trans rfl
    have hcz13_1 : wr.cell? ⟨gb225,1,none⟩ = some (.slice A0_1 l0_1.length c0_1):=(kC_ BK225.out 1).trans rfl
    have hcz13_2 : wr.cell? ⟨gb225,2,none⟩ = some (.slice A0_2 l0_2.length c0_2):=(kC_ BK225.out 2).trans rfl
    have hcz13_3 : wr.cell? ⟨gb225,3,none⟩ = some (.slice A0_3 l0_3.length c0_3):=(kC_ BK225.out 3).trans rfl
    have hfz13_0:=kF_ BK225.out 0
    have hfz13_1:=kF_ BK225.out 1
    have hfz13_2:=kF_ BK225.out 2
    have hfz13_3:=kF_ BK225.out 3
    go_wp2
    (try simp only [Act.put,sI_,sS_,sZ_])
    go_loopg [4] k1 (fun kq v4 w'=>∃ (x4_2 : Int),v4 = .int .i64 x4_2 ∧ Aside0 (spec_l9Once.l1 kq x4_2 a0_0 l0_1 l0_2 l0_3 = some r) ∧ Aside0 (kq ≤ k1) ∧ Aside0 (w'.heap[gb225]? = some (.cells #[.string a0_0,(.slice A0_1 l0_1.length c0_1),(.slice A0_2 l0_2.length c0_2),(.slice A0_3 l0_3.length c0_3)] 35 (0,0))) ∧ Aside0 (Below w.heap.size w w'))
    case atStart=>exact ⟨(0),(by first | rfl | (simp;done) | (simp [*];done)),H', ⟨Nat.le_refl _⟩,⟨by exact kZ_ BK225⟩,⟨by exact bZ_ HB⟩⟩
    case round =>
     clear H'
     clear c3b0 hcz13_0 hcz13_1 hcz13_2 hcz13_3 hfz13_0 hfz13_1 hfz13_2 hfz13_3
     obtain ⟨x4_2,rfl,HA,HK2,BK225,HB⟩:=hrel
     cases gk with
     | zero=>exact absurd HA.out (by simp [spec_l9Once.l1])
     | succ k2 =>
      have H:=HA.out
      clear HA
      simp only [spec_l9Once.l1] at H
      by_cases c14 : x4_2 < (l0_3.length : Int)
      ·rw [if_pos c14] at H
       have c14b0 : decide (x4_2 < (l0_3.length : Int)) = true:=decide_eq_true c14
       clear c14
       have H':=aM_ H
       clear H
       have hcz15_0 : wr.cell? ⟨gb225,0,none⟩ = some (.string a0_0):=(kC_ BK225.out 0).trans rfl
       have hcz15_1 : wr.cell? ⟨gb225,1,none⟩ = some (.slice A0_1 l0_1.length c0_1):=(kC_ BK225.out 1).trans rfl
       have hcz15_2 : wr.cell? ⟨gb225,2,none⟩ = some (.slice A0_2 l0_2.length c0_2):=(kC_ BK225.out 2).trans rfl
       have hcz15_3 : wr.cell? ⟨gb225,3,none⟩ = some (.slice A0_3 l0_3.length c0_3):=(kC_ BK225.out 3).trans rfl
       have hfz15_0:=kF_ BK225.out 0
       have hfz15_1:=kF_ BK225.out 1
       have hfz15_2:=kF_ BK225.out 2
       have hfz15_3:=kF_ BK225.out 3
       go_wp2
       (try simp only [Act.put,sI_,sS_,sZ_])
       go_loopg [5] k2 (fun kq v5 w'=>∃ (x5_3 : Int),v5 = .int .i64 x5_3 ∧ Aside0 (spec_l9Once.l2 kq x4_2 x5_3 a0_0 l0_1 l0_2 l0_3 = some r) ∧ Aside0 (kq ≤ k2) ∧ Aside0 (w'.heap[gb225]? = some (.cells #[.string a0_0,(.slice A0_1 l0_1.length c0_1),(.slice A0_2 l0_2.length c0_2),(.slice A0_3 l0_3.length c0_3)] 35 (0,0))) ∧ Aside0 (Below w.heap.size w w'))
       case atStart=>exact ⟨(0),(by first | rfl | (simp;done) | (simp [*];done)),H', ⟨Nat.le_refl _⟩,⟨by exact kZ_ BK225⟩,⟨by exact bZ_ HB⟩⟩
       case round =>
        clear H'
        clear c14b0 hcz15_0 hcz15_1 hcz15_2 hcz15_3 hfz15_0 hfz15_1 hfz15_2 hfz15_3
        obtain ⟨x5_3,rfl,HA,HK3,BK225,HB⟩:=hrel
        cases gk with
        | zero=>exact absurd HA.out (by simp [spec_l9Once.l2])
        | succ k3 =>
         have H:=HA.out
         clear HA
         simp only [spec_l9Once.l2] at H
         by_cases c16 : x5_3 < x4_2
         ·rw [if_pos c16] at H
          have c16b0 : decide (x5_3 < x4_2) = true:=decide_eq_true c16
          clear c16
          by_cases c17 : 0 ≤ x5_3
          ·rw [if_pos c17] at H
           have c17b0 : decide (0 ≤ x5_3) = true:=decide_eq_true c17
           clear c17
           by_cases c18 : x5_3 < (l0_3.length : Int)
           ·rw [if_pos c18] at H
            have c18b0 : decide (x5_3 < (l0_3.length : Int)) = true:=decide_eq_true c18
            clear c18
            by_cases c19 : 0 ≤ x4_2
            ·rw [if_pos c19] at H
             have c19b0 : decide (0 ≤ x4_2) = true:=decide_eq_true c19
             clear c19
             by_cases c20 : x4_2 < (l0_3.length : Int)
             ·rw [if_pos c20] at H
              have c20b0 : decide (x4_2 < (l0_3.length : Int)) = true:=decide_eq_true c20
              clear c20
              by_cases c21 : ((rd_T69 l0_3 x5_3).f0).toList = ((rd_T69 l0_3 x4_2).f0).toList
              ·rw [if_pos c21] at H
               have c21b0 : (((rd_T69 l0_3 x5_3).f0).toList == ((rd_T69 l0_3 x4_2).f0).toList) = true:=beq_iff_eq.mpr c21
               have c21b1 : (((rd_T69 l0_3 x5_3).f0).toList != ((rd_T69 l0_3 x4_2).f0).toList) = false:=bne_eq_false_iff_eq.mpr c21
               clear c21
               obtain rfl:=Option.some.inj H
               try go_wp2
               have n0_:=aM_ (kD_ BK225.out)
               have n1_:=aM_ (bD_ HB.out)
               clear BK225 HB
               have BK225:=n0_
               have HB:=n1_
               clear n0_ n1_
               have p228 : 0 ≤ (x5_3 : Int):=oT_ (by first | (with_reducible assumption) | assumption)
               have q228 : x5_3 < (l0_3.length : Int):=oT_ (by first | (with_reducible assumption) | assumption)
               obtain ⟨ad228,A228_2,c228_2,e228,hx228_0,hx228_1,hx228_2,hl228_2,hi228_2⟩:=at_T69 HR0_3.out x5_3 p228 q228
               have hw228_2:=hx228_2
               have hw228_1:=hx228_1
               have hw228_0:=hx228_0
               cases e228
               replace hx228_0:=(HB.out.cell (wL_ w _ hx228_0)).trans hx228_0
               replace hx228_1:=(HB.out.cell (wL_ w _ hx228_1)).trans hx228_1
               replace hx228_2:=(HB.out.cell (wL_ w _ hx228_2)).trans hx228_2
               have HR228_2:=aM_ hi228_2
               have HC228_2:=aM_ hl228_2
               clear hi228_2 hl228_2
               replace p228:=eq_true p228
               replace q228:=eq_true q228
               have p229 : 0 ≤ (x4_2 : Int):=oT_ (by first | (with_reducible assumption) | assumption)
               have q229 : x4_2 < (l0_3.length : Int):=oT_ (by first | (with_reducible assumption) | assumption)
               obtain ⟨ad229,A229_2,c229_2,e229,hx229_0,hx229_1,hx229_2,hl229_2,hi229_2⟩:=at_T69 HR0_3.out x4_2 p229 q229
               have hw229_2:=hx229_2
               have hw229_1:=hx229_1
               have hw229_0:=hx229_0
               obtain rfl : ad228 = ad229:=(by injection e229)
               replace hx229_0:=(HB.out.cell (wL_ w _ hx229_0)).trans hx229_0
               replace hx229_1:=(HB.out.cell (wL_ w _ hx229_1)).trans hx229_1
               replace hx229_2:=(HB.out.cell (wL_ w _ hx229_2)).trans hx229_2
               have HR229_2:=aM_ hi229_2
               have HC229_2:=aM_ hl229_2
               clear hi229_2 hl229_2
               replace p229:=eq_true p229
               replace q229:=eq_true q229
               refine start_ (n:=13) (S:=fun w'=>w'.cell? ⟨gb225,0,none⟩ = some (.string a0_0) ∧ w'.cell? ⟨gb225,1,none⟩ = some (.slice A0_1 l0_1.length c0_1) ∧ w'.cell? ⟨gb225,2,none⟩ = some (.slice A0_2 l0_2.length c0_2) ∧ w'.cell? ⟨gb225,3,none⟩ = some (.slice (some ad228) l0_3.length c0_3) ∧ w'.cell? (ad228.add ((x5_3).toNat * 3)) = some (.string ((rd_T69 l0_3 x5_3).f0)) ∧ w'.cell? ⟨(ad228.add ((x5_3).toNat * 3)).block,(ad228.add ((x5_3).toNat * 3)).off + 1,none⟩ = some (.bool ((rd_T69 l0_3 x5_3).f1)) ∧ w'.cell? ⟨(ad228.add ((x5_3).toNat * 3)).block,(ad228.add ((x5_3).toNat * 3)).off + 2,none⟩ = some (.slice A228_2 ((rd_T69 l0_3 x5_3).f2).length c228_2) ∧ w'.cell? (ad228.add ((x4_2).toNat * 3)) = some (.string ((rd_T69 l0_3 x4_2).f0)) ∧ w'.cell? ⟨(ad228.add ((x4_2).toNat * 3)).block,(ad228.add ((x4_2).toNat * 3)).off + 1,none⟩ = some (.bool ((rd_T69 l0_3 x4_2).f1)) ∧ w'.cell? ⟨(ad228.add ((x4_2).toNat * 3)).block,(ad228.add ((x4_2).toNat * 3)).off + 2,none⟩ = some (.slice A229_2 ((rd_T69 l0_3 x4_2).f2).length c229_2)) (ds:=[]) (tb_ 0 13) (by kernel_rfl) rfl rfl ⟨(kC_ BK225.out 0).trans rfl,(kC_ BK225.out 1).trans rfl,(kC_ BK225.out 2).trans rfl,(kC_ BK225.out 3).trans rfl,((HB.out.cell (wL_ w _ hw228_0)).trans hw228_0),((HB.out.cell (wL_ w _ hw228_1)).trans hw228_1),((HB.out.cell (wL_ w _ hw228_2)).trans hw228_2),((HB.out.cell (wL_ w _ hw229_0)).trans hw229_0),((HB.out.cell (wL_ w _ hw229_1)).trans hw229_1),((HB.out.cell (wL_ w _ hw229_2)).trans hw229_2)⟩ (fun hHeld=>?_);refine with_tabW spec_l9Once.tab12 spec_l9Once.bits12 (fun HT_ HW_=>?_)
               generalize wr.drew = w22 at BK225 HB HR228_2 HR229_2 hx228_0 hx228_1 hx228_2 hx229_0 hx229_1 hx229_2 hHeld ⊢
               refine pure_ (i:=0) (N:=some 35) (v:=?_) (a':=?_) (tb_ 1 12) rfl rfl (any_of HT_.out (by kernel_rfl)) (fun _ _ _ h=>h) (Or.inl ⟨by rfl,?_⟩) ?_ ?_
               rotate_left
               ·intro w'
                go_simp
                with_reducible rfl
               rotate_left
               ·simp only [Act.put,sI_,sZ_,sS_,i64_w,i32_w]
                rfl
               refine pure_ (i:=2) (N:=some 37) (v:=?_) (a':=?_) #[true,false,true,false,false,false,false,false,false,false,false,false,false] rfl rfl (any_of HT_.out (by kernel_rfl)) (fun _ _ _ h=>h) (Or.inl ⟨by rfl,?_⟩) ?_ ?_
               rotate_left
               ·intro w'
                go_simp
                with_reducible rfl
               rotate_left
               ·simp only [Act.put,sI_,sZ_,sS_,i64_w,i32_w]
                rfl
               refine pure_ (i:=6) (N:=some 41) (v:=?_) (a':=?_) #[true,false,true,false,false,false,true,false,false,false,false,false,false] rfl rfl (any_of HT_.out (by kernel_rfl)) (fun _ _ _ h=>h) (Or.inl ⟨by rfl,?_⟩) ?_ ?_
               rotate_left
               ·intro w'
                go_simp
                with_reducible rfl
               rotate_left
               ·simp only [Act.put,sI_,sZ_,sS_,i64_w,i32_w]
                rfl
               refine pure_ (i:=8) (N:=some 43) (v:=?_) (a':=?_) #[true,false,true,false,false,false,true,false,true,false,false,false,false] rfl rfl (any_of HT_.out (by kernel_rfl)) (fun _ _ _ h=>h) (Or.inl ⟨by rfl,?_⟩) ?_ ?_
               rotate_left
               ·intro w'
                go_simp
                with_reducible rfl
               rotate_left
               ·simp only [Act.put,sI_,sZ_,sS_,i64_w,i32_w]
                rfl
               refine take_ (i:=1) (N:=some 36) (v:=?_) (a':=?_) #[true,true,true,false,false,false,true,false,true,false,false,false,false] rfl rfl (take_ofW HT_.out HW_.out (by kernel_rfl)) (fun _ _ _ h=>h) (Or.inl ⟨by rfl,?_⟩) hHeld ?_ ?_
               rotate_left
               ·rintro w' ⟨s0,s1,s2,s3,s4,s5,s6,s7,s8,s9⟩
                go_simp
                with_reducible rfl
               rotate_left
               ·simp only [Act.put,sI_,sZ_,sS_,i64_w,i32_w]
                rfl
               refine pure_ (i:=3) (N:=some 38) (v:=?_) (a':=?_) #[true,true,true,true,false,false,true,false,true,false,false,false,false] rfl rfl (any_of HT_.out (by kernel_rfl)) (fun _ _ _ h=>h) (Or.inl ⟨by rfl,?_⟩) ?_ ?_
               rotate_left
               ·intro w'
                go_simp
                with_reducible rfl
               rotate_left
               ·simp only [Act.put,sI_,sZ_,sS_,i64_w,i32_w]
                rfl
               refine pure_ (i:=4) (N:=some 39) (v:=?_) (a':=?_) #[true,true,true,true,true,false,true,false,true,false,false,false,false] rfl rfl (any_of HT_.out (by kernel_rfl)) (fun _ _ _ h=>h) (Or.inl ⟨by rfl,?_⟩) ?_ ?_
               rotate_left
               ·intro w'
                go_simp
                with_reducible rfl
               rotate_left
               ·simp only [Act.put,sI_,sZ_,sS_,i64_w,i32_w]
                rfl
               refine take_ (i:=5) (N:=some 40) (v:=?_) (a':=?_) #[true,true,true,true,true,true,true,false,true,false,false,false,false] rfl rfl (take_ofW HT_.out HW_.out (by kernel_rfl)) (fun _ _ _ h=>h) (Or.inl ⟨by rfl,?_⟩) hHeld ?_ ?_
               rotate_left
               ·rintro w' ⟨s0,s1,s2,s3,s4,s5,s6,s7,s8,s9⟩
                go_simp
                with_reducible rfl
               rotate_left
               ·simp only [Act.put,sI_,sZ_,sS_,i64_w,i32_w]
                rfl
               refine take_ (i:=7) (N:=some 42) (v:=?_) (a':=?_) (tb_ 9 4) rfl rfl (take_ofW HT_.out HW_.out (by kernel_rfl)) (fun _ _ _ h=>h) (Or.inl ⟨by rfl,?_⟩) hHeld ?_ ?_
               rotate_left
               ·rintro w' ⟨s0,s1,s2,s3,s4,s5,s6,s7,s8,s9⟩
                go_simp
                with_reducible rfl
               rotate_left
               ·simp only [Act.put,sI_,sZ_,sS_,i64_w,i32_w]
                rfl
               refine pure_ (i:=9) (N:=some 44) (v:=?_) (a':=?_) (tb_ 10 3) rfl rfl (any_of HT_.out (by kernel_rfl)) (fun _ _ _ h=>h) (Or.inl ⟨by rfl,?_⟩) ?_ ?_
               rotate_left
               ·intro w'
                go_simp
                with_reducible rfl
               rotate_left
               ·simp only [Act.put,sI_,sZ_,sS_,i64_w,i32_w]
                rfl
               refine pure_ (i:=10) (N:=some 45) (v:=?_) (a':=?_) (tb_ 11 2) rfl rfl (any_of HT_.out (by kernel_rfl)) (fun _ _ _ h=>h) (Or.inl ⟨by rfl,?_⟩) ?_ ?_
               rotate_left
               ·intro w'
                go_simp
                with_reducible rfl
               rotate_left
               ·simp only [Act.put,sI_,sZ_,sS_,i64_w,i32_w]
                rfl
               refine take_ (i:=11) (N:=some 46) (v:=?_) (a':=?_) (tb_ 12 1) rfl rfl (take_ofW HT_.out HW_.out (by kernel_rfl)) (fun _ _ _ h=>h) (Or.inl ⟨by rfl,?_⟩) hHeld ?_ ?_
               rotate_left
               ·rintro w' ⟨s0,s1,s2,s3,s4,s5,s6,s7,s8,s9⟩
                go_simp
                with_reducible rfl
               rotate_left
               ·simp only [Act.put,sI_,sZ_,sS_,i64_w,i32_w]
                rfl
               refine pure_ (i:=12) (N:=some 47) (v:=?_) (a':=?_) (tb_ 13 0) rfl rfl (any_of HT_.out (by kernel_rfl)) (fun _ _ _ h=>h) (Or.inl ⟨by rfl,?_⟩) ?_ ?_
               rotate_left
               ·intro w'
                go_simp
                with_reducible rfl
               rotate_left
               ·simp only [Act.put,sI_,sZ_,sS_,i64_w,i32_w]
                rfl
               refine done_ (done_of HT_.out (by kernel_rfl)) ?_
               try go_wp2
               go_ret
               exact ⟨by first | rfl | (simp [errW_none,errW_some] <;> rfl) | (simp [*, errW_none,errW_some] <;> rfl),by exact bZ_ HB⟩
              ·rw [if_neg c21] at H
               have c21b0 : (((rd_T69 l0_3 x5_3).f0).toList == ((rd_T69 l0_3 x4_2).f0).toList) = false:=beq_eq_false_iff_ne.mpr c21
               have c21b1 : (((rd_T69 l0_3 x5_3).f0).toList != ((rd_T69 l0_3 x4_2).f0).toList) = true:=bne_iff_ne.mpr c21
               have H':=aM_ H
               clear H
               try go_wp2
               have n0_:=aM_ (kD_ BK225.out)
               have n1_:=aM_ (bD_ HB.out)
               clear BK225 HB
               have BK225:=n0_
               have HB:=n1_
               clear n0_ n1_
               have p228 : 0 ≤ (x5_3 : Int):=oT_ (by first | (with_reducible assumption) | assumption)
               have q228 : x5_3 < (l0_3.length : Int):=oT_ (by first | (with_reducible assumption) | assumption)
               obtain ⟨ad228,A228_2,c228_2,e228,hx228_0,hx228_1,hx228_2,hl228_2,hi228_2⟩:=at_T69 HR0_3.out x5_3 p228 q228
               have hw228_2:=hx228_2
               have hw228_1:=hx228_1
               have hw228_0:=hx228_0
               cases e228
               replace hx228_0:=(HB.out.cell (wL_ w _ hx228_0)).trans hx228_0
               replace hx228_1:=(HB.out.cell (wL_ w _ hx228_1)).trans hx228_1
               replace hx228_2:=(HB.out.cell (wL_ w _ hx228_2)).trans hx228_2
               have HR228_2:=aM_ hi228_2
               have HC228_2:=aM_ hl228_2
               clear hi228_2 hl228_2
               replace p228:=eq_true p228
               replace q228:=eq_true q228
               have p229 : 0 ≤ (x4_2 : Int):=oT_ (by first | (with_reducible assumption) | assumption)
               have q229 : x4_2 < (l0_3.length : Int):=oT_ (by first | (with_reducible assumption) | assumption)
               obtain ⟨ad229,A229_2,c229_2,e229,hx229_0,hx229_1,hx229_2,hl229_2,hi229_2⟩:=at_T69 HR0_3.out x4_2 p229 q229
               have hw229_2:=hx229_2
               have hw229_1:=hx229_1
               have hw229_0:=hx229_0
               obtain rfl : ad228 = ad229:=(by injection e229)
               replace hx229_0:=(HB.out.cell (wL_ w _ hx229_0)).trans hx229_0
               replace hx229_1:=(HB.out.cell (wL_ w _ hx229_1)).trans hx229_1
               replace hx229_2:=(HB.out.cell (wL_ w _ hx229_2)).trans hx229_2
               have HR229_2:=aM_ hi229_2
               have HC229_2:=aM_ hl229_2
               clear hi229_2 hl229_2
               replace p229:=eq_true p229
               replace q229:=eq_true q229
               refine start_ (n:=13) (S:=fun w'=>w'.cell? ⟨gb225,0,none⟩ = some (.string a0_0) ∧ w'.cell? ⟨gb225,1,none⟩ = some (.slice A0_1 l0_1.length c0_1) ∧ w'.cell? ⟨gb225,2,none⟩ = some (.slice A0_2 l0_2.length c0_2) ∧ w'.cell? ⟨gb225,3,none⟩ = some (.slice (some ad228) l0_3.length c0_3) ∧ w'.cell? (ad228.add ((x5_3).toNat * 3)) = some (.string ((rd_T69 l0_3 x5_3).f0)) ∧ w'.cell? ⟨(ad228.add ((x5_3).toNat * 3)).block,(ad228.add ((x5_3).toNat * 3)).off + 1,none⟩ = some (.bool ((rd_T69 l0_3 x5_3).f1)) ∧ w'.cell? ⟨(ad228.add ((x5_3).toNat * 3)).block,(ad228.add ((x5_3).toNat * 3)).off + 2,none⟩ = some (.slice A228_2 ((rd_T69 l0_3 x5_3).f2).length c228_2) ∧ w'.cell? (ad228.add ((x4_2).toNat * 3)) = some (.string ((rd_T69 l0_3 x4_2).f0)) ∧ w'.cell? ⟨(ad228.add ((x4_2).toNat * 3)).block,(ad228.add ((x4_2).toNat * 3)).off + 1,none⟩ = some (.bool ((rd_T69 l0_3 x4_2).f1)) ∧ w'.cell? ⟨(ad228.add ((x4_2).toNat * 3)).block,(ad228.add ((x4_2).toNat * 3)).off + 2,none⟩ = some (.slice A229_2 ((rd_T69 l0_3 x4_2).f2).length c229_2)) (ds:=[]) (tb_ 0 13) (by kernel_rfl) rfl rfl ⟨(kC_ BK225.out 0).trans rfl,(kC_ BK225.out 1).trans rfl,(kC_ BK225.out 2).trans rfl,(kC_ BK225.out 3).trans rfl,((HB.out.cell (wL_ w _ hw228_0)).trans hw228_0),((HB.out.cell (wL_ w _ hw228_1)).trans hw228_1),((HB.out.cell (wL_ w _ hw228_2)).trans hw228_2),((HB.out.cell (wL_ w _ hw229_0)).trans hw229_0),((HB.out.cell (wL_ w _ hw229_1)).trans hw229_1),((HB.out.cell (wL_ w _ hw229_2)).trans hw229_2)⟩ (fun hHeld=>?_);refine with_tabW spec_l9Once.tab12 spec_l9Once.bits12 (fun HT_ HW_=>?_)
               generalize wr.drew = w23 at BK225 HB HR228_2 HR229_2 hx228_0 hx228_1 hx228_2 hx229_0 hx229_1 hx229_2 hHeld ⊢
               refine pure_ (i:=0) (N:=some 35) (v:=?_) (a':=?_) (tb_ 1 12) rfl rfl (any_of HT_.out (by kernel_rfl)) (fun _ _ _ h=>h) (Or.inl ⟨by rfl,?_⟩) ?_ ?_
               rotate_left
               ·intro w'
                go_simp
                with_reducible rfl
               rotate_left
               ·simp only [Act.put,sI_,sZ_,sS_,i64_w,i32_w]
                rfl
               refine pure_ (i:=2) (N:=some 37) (v:=?_) (a':=?_) #[true,false,true,false,false,false,false,false,false,false,false,false,false] rfl rfl (any_of HT_.out (by kernel_rfl)) (fun _ _ _ h=>h) (Or.inl ⟨by rfl,?_⟩) ?_ ?_
               rotate_left
               ·intro w'
                go_simp
                with_reducible rfl
               rotate_left
               ·simp only [Act.put,sI_,sZ_,sS_,i64_w,i32_w]
                rfl
               refine pure_ (i:=6) (N:=some 41) (v:=?_) (a':=?_) #[true,false,true,false,false,false,true,false,false,false,false,false,false] rfl rfl (any_of HT_.out (by kernel_rfl)) (fun _ _ _ h=>h) (Or.inl ⟨by rfl,?_⟩) ?_ ?_
               rotate_left
               ·intro w'
                go_simp
                with_reducible rfl
               rotate_left
               ·simp only [Act.put,sI_,sZ_,sS_,i64_w,i32_w]
                rfl
               refine pure_ (i:=8) (N:=some 43) (v:=?_) (a':=?_) #[true,false,true,false,false,false,true,false,true,false,false,false,false] rfl rfl (any_of HT_.out (by kernel_rfl)) (fun _ _ _ h=>h) (Or.inl ⟨by rfl,?_⟩) ?_ ?_
               rotate_left
               ·intro w'
                go_simp
                with_reducible rfl
               rotate_left
               ·simp only [Act.put,sI_,sZ_,sS_,i64_w,i32_w]
                rfl
               refine take_ (i:=1) (N:=some 36) (v:=?_) (a':=?_) #[true,true,true,false,false,false,true,false,true,false,false,false,false] rfl rfl (take_ofW HT_.out HW_.out (by kernel_rfl)) (fun _ _ _ h=>h) (Or.inl ⟨by rfl,?_⟩) hHeld ?_ ?_
               rotate_left
               ·rintro w' ⟨s0,s1,s2,s3,s4,s5,s6,s7,s8,s9⟩
                go_simp
                with_reducible rfl
               rotate_left
               ·simp only [Act.put,sI_,sZ_,sS_,i64_w,i32_w]
                rfl
               refine pure_ (i:=3) (N:=some 38) (v:=?_) (a':=?_) #[true,true,true,true,false,false,true,false,true,false,false,false,false] rfl rfl (any_of HT_.out (by kernel_rfl)) (fun _ _ _ h=>h) (Or.inl ⟨by rfl,?_⟩) ?_ ?_
               rotate_left
               ·intro w'
                go_simp
                with_reducible rfl
               rotate_left
               ·simp only [Act.put,sI_,sZ_,sS_,i64_w,i32_w]
                rfl
               refine pure_ (i:=4) (N:=some 39) (v:=?_) (a':=?_) #[true,true,true,true,true,false,true,false,true,false,false,false,false] rfl rfl (any_of HT_.out (by kernel_rfl)) (fun _ _ _ h=>h) (Or.inl ⟨by rfl,?_⟩) ?_ ?_
               rotate_left
               ·intro w'
                go_simp
                with_reducible rfl
               rotate_left
               ·simp only [Act.put,sI_,sZ_,sS_,i64_w,i32_w]
                rfl
               refine take_ (i:=5) (N:=some 40) (v:=?_) (a':=?_) #[true,true,true,true,true,true,true,false,true,false,false,false,false] rfl rfl (take_ofW HT_.out HW_.out (by kernel_rfl)) (fun _ _ _ h=>h) (Or.inl ⟨by rfl,?_⟩) hHeld ?_ ?_
               rotate_left
               ·rintro w' ⟨s0,s1,s2,s3,s4,s5,s6,s7,s8,s9⟩
                go_simp
                with_reducible rfl
               rotate_left
               ·simp only [Act.put,sI_,sZ_,sS_,i64_w,i32_w]
                rfl
               refine take_ (i:=7) (N:=some 42) (v:=?_) (a':=?_) (tb_ 9 4) rfl rfl (take_ofW HT_.out HW_.out (by kernel_rfl)) (fun _ _ _ h=>h) (Or.inl ⟨by rfl,?_⟩) hHeld ?_ ?_
               rotate_left
               ·rintro w' ⟨s0,s1,s2,s3,s4,s5,s6,s7,s8,s9⟩
                go_simp
                with_reducible rfl
               rotate_left
               ·simp only [Act.put,sI_,sZ_,sS_,i64_w,i32_w]
                rfl
               refine pure_ (i:=9) (N:=some 44) (v:=?_) (a':=?_) (tb_ 10 3) rfl rfl (any_of HT_.out (by kernel_rfl)) (fun _ _ _ h=>h) (Or.inl ⟨by rfl,?_⟩) ?_ ?_
               rotate_left
               ·intro w'
                go_simp
                with_reducible rfl
               rotate_left
               ·simp only [Act.put,sI_,sZ_,sS_,i64_w,i32_w]
                rfl
               refine pure_ (i:=10) (N:=some 45) (v:=?_) (a':=?_) (tb_ 11 2) rfl rfl (any_of HT_.out (by kernel_rfl)) (fun _ _ _ h=>h) (Or.inl ⟨by rfl,?_⟩) ?_ ?_
               rotate_left
               ·intro w'
                go_simp
                with_reducible rfl
               rotate_left
               ·simp only [Act.put,sI_,sZ_,sS_,i64_w,i32_w]
                rfl
               refine take_ (i:=11) (N:=some 46) (v:=?_) (a':=?_) (tb_ 12 1) rfl rfl (take_ofW HT_.out HW_.out (by kernel_rfl)) (fun _ _ _ h=>h) (Or.inl ⟨by rfl,?_⟩) hHeld ?_ ?_
               rotate_left
               ·rintro w' ⟨s0,s1,s2,s3,s4,s5,s6,s7,s8,s9⟩
                go_simp
                with_reducible rfl
               rotate_left
               ·simp only [Act.put,sI_,sZ_,sS_,i64_w,i32_w]
                rfl
               refine pure_ (i:=12) (N:=some 47) (v:=?_) (a':=?_) (tb_ 13 0) rfl rfl (any_of HT_.out (by kernel_rfl)) (fun _ _ _ h=>h) (Or.inl ⟨by rfl,?_⟩) ?_ ?_
               rotate_left
               ·intro w'
                go_simp
                with_reducible rfl
               rotate_left
               ·simp only [Act.put,sI_,sZ_,sS_,i64_w,i32_w]
                rfl
               refine done_ (done_of HT_.out (by kernel_rfl)) ?_
               try go_wp2
               go_roundg k3
               case measure=>have:=HK1.out;have:=HK2.out;have:=HK3.out;omega
               case rel=>exact ⟨(wrap64 (x5_3 + 1)),(by first | rfl | (simp;done) | (simp [*];done)),H', ⟨by have:=HK1.out;have:=HK2.out;have:=HK3.out;omega⟩,⟨by exact kZ_ BK225⟩,⟨by exact bZ_ HB⟩⟩
             ·rw [if_neg c20] at H
              exact absurd H (by simp)
            ·rw [if_neg c19] at H
             exact absurd H (by simp)
           ·rw [if_neg c18] at H
            exact absurd H (by simp)
          ·rw [if_neg c17] at H
           exact absurd H (by simp)
         ·rw [if_neg c16] at H
          have c16b0 : decide (x5_3 < x4_2) = false:=decide_eq_false c16
          clear c16
          have H':=aM_ H
          clear H
          go_wp2
          go_roundg k3
          case measure=>have:=HK1.out;have:=HK2.out;have:=HK3.out;omega
          case rel=>exact ⟨(wrap64 (x4_2 + 1)),(by first | rfl | (simp;done) | (simp [*];done)),H', ⟨by have:=HK1.out;have:=HK2.out;have:=HK3.out;omega⟩,⟨by exact kZ_ BK225⟩,⟨by exact bZ_ HB⟩⟩
      ·rw [if_neg c14] at H
       have c14b0 : decide (x4_2 < (l0_3.length : Int)) = false:=decide_eq_false c14
       clear c14
       obtain rfl:=Option.some.inj H
       have hcz24_0 : wr.cell? ⟨gb225,0,none⟩ = some (.string a0_0):=(kC_ BK225.out 0).trans rfl
       have hcz24_1 : wr.cell? ⟨gb225,1,none⟩ = some (.slice A0_1 l0_1.length c0_1):=(kC_ BK225.out 1).trans rfl
       have hcz24_2 : wr.cell? ⟨gb225,2,none⟩ = some (.slice A0_2 l0_2.length c0_2):=(kC_ BK225.out 2).trans rfl
       have hcz24_3 : wr.cell? ⟨gb225,3,none⟩ = some (.slice A0_3 l0_3.length c0_3):=(kC_ BK225.out 3).trans rfl
       have hfz24_0:=kF_ BK225.out 0
       have hfz24_1:=kF_ BK225.out 1
       have hfz24_2:=kF_ BK225.out 2
       have hfz24_3:=kF_ BK225.out 3
       go_wp2
       go_ret
       exact ⟨by first | rfl | (simp [errW_none,errW_some] <;> rfl) | (simp [*, errW_none,errW_some] <;> rfl),by exact bZ_ HB⟩
end Go.Proofs.YtipehkeabnfngaaDoor.PFnExactDefsText
