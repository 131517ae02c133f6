import Derived.Test.YtllgmgpfdnofmaaZRRPFnRowsReadx0
import Derived.Test.YtllgmgpfdnofmaaZRRPFnRowsReadx1
namespace Go.Proofs.Ytllgmgpfdnofmaa.PFnRowsRead
open Go.RowKit Go.Proofs.YtllgmgpfdnofmaaW.PrintWords Go.Proofs.YtllgmgpfdnofmaaW.PrintLast Go.Proofs.YtllgmgpfdnofmaaW.PrintMore Go.Proofs.Ytllgmgpfdnofmaa.Xtra
attribute [local go_sem] max2_int min2_int max_two min_two max_three min_three max_four min_four str_leq str_gtr str_geq setCell_drewN cell_set2 cell_set3   -- for this text's walks alone
set_option linter.unusedVariables false
set_option linter.unusedSimpArgs false
def impl_FitsAll.l0 : Nat → List (S119) → List (S116) → Int → Int → Option (Bool)
 | 0,_,_,_,_=>none
 | k + 1,x0,x12,x13,x14=>if x14 < x13 then (if 0 ≤ x14 then (if x14 < (x12.length : Int) then (if x14 < (x0.length : Int) then ((impl_Fits.f ((rd_T119 x0 x14).f0) ((rd_T119 x0 x14).f1) ((rd_T119 x0 x14).f2) ((rd_T119 x0 x14).f3) ((rd_T116 x12 x14).f0) ((rd_T116 x12 x14).f1) ((rd_T116 x12 x14).f2)).bind fun t119=>(if t119 = true then (impl_FitsAll.l0 k x0 x12 x13 (wrap64 (x14 + 1))) else (some false))) else (none)) else (none)) else (none)) else (some true)
def impl_FitsAll.f (k : Nat) (l0 : List (S119)) (l1 : List (S116)) : Option (Bool):=if (l1.length : Int) > (l0.length : Int) then (some false) else (impl_FitsAll.l0 k l0 l1 (l1.length : Int) 0)
theorem impl_FitsAll.mono_l : ∀ k,(∀ y0 y1 y2 y3,LeO (impl_FitsAll.l0 k y0 y1 y2 y3) (impl_FitsAll.l0 (k + 1) y0 y1 y2 y3))
 | 0=>fun _ _ _ _ r h=>by simp [impl_FitsAll.l0] at h
 | k + 1=>by
  have ih0:=impl_FitsAll.mono_l k
  ·intro y0 y1 y2 y3
   unfold impl_FitsAll.l0
   repeat' first
   | (with_reducible exact ih0 _ _ _ _)
   | (with_reducible exact LeO.refl _)
   | (with_reducible exact LeO.none _)
   | (with_reducible refine LeO.ite ?_ ?_)
   | (with_reducible refine LeO.bind ?_ (fun _=>?_))
   | exact ih0 _ _ _ _
   | exact LeO.none _
   | refine LeO.ite ?_ ?_
   | refine LeO.bind ?_ (fun _=>?_)
theorem impl_FitsAll.mono : ∀ a0 a1 k,LeO (impl_FitsAll.f k a0 a1) (impl_FitsAll.f (k + 1) a0 a1):=by
 intro a0 a1 k
 have ih0:=impl_FitsAll.mono_l k
 unfold impl_FitsAll.f
 repeat' first
   | (with_reducible exact ih0 _ _ _ _)
   | (with_reducible exact LeO.refl _)
   | (with_reducible exact LeO.none _)
   | (with_reducible refine LeO.ite ?_ ?_)
   | (with_reducible refine LeO.bind ?_ (fun _=>?_))
   | exact ih0 _ _ _ _
   | exact LeO.none _
   | refine LeO.ite ?_ ?_
   | refine LeO.bind ?_ (fun _=>?_)
set_option maxHeartbeats 8000000 in
set_option maxRecDepth 100000 in
theorem impl_FitsAll.calls (k : Nat) (A0 : Option Addr) (c0 : Nat) (l0 : List (S119)) (A1 : Option Addr) (c1 : Nat) (l1 : List (S116)) (r : Bool) (w : World) (hr0 : Kd.C k119 w A0 l0.length l0) (hc0 : l0.length ≤ c0) (hr1 : Kd.C k116 w A1 l1.length l1) (hc1 : l1.length ≤ c1) (h : impl_FitsAll.f k l0 l1 = some r) :
  Calls Try.prog 113 #[.slice A0 l0.length c0,.slice A1 l1.length c1] w fun e w'=>e = .returned (.bool r) ∧ Below w.heap.size w w':=by
 have hu116:=Try.underlying116
 have hu119:=Try.underlying119
 have HR0:=aM_ hr0
 have HC0:=aM_ hc0
 clear hr0 hc0
 have HR1:=aM_ hr1
 have HC1:=aM_ hc1
 clear hr1 hc1
 have HB:=aM_ (Below.refl w.heap.size w)
 have H : (if (l1.length : Int) > (l0.length : Int) then (some false) else (impl_FitsAll.l0 k l0 l1 (l1.length : Int) 0)) = some r:=h
 clear h
 by_cases c3 : (l1.length : Int) > (l0.length : Int)
 ·rw [if_pos c3] at H
  have c3b0 : decide ((l0.length : Int) < (l1.length : Int)) = true:=decide_eq_true c3
  have c3b1 : decide (l0.length < l1.length) = true:=decide_eq_true (Int.ofNat_lt.mp c3)
  clear c3
  obtain rfl:=Option.some.inj H
  go_enter Try.func113,Try.ntmps113
  go_wp2
  go_ret
  exact ⟨by first | rfl | (simp [errW_none,errW_some] <;> rfl) | (simp [*, errW_none,errW_some] <;> rfl),by exact bZ_ HB⟩
 ·rw [if_neg c3] at H
  have c3b0 : decide ((l0.length : Int) < (l1.length : Int)) = false:=decide_eq_false c3
  have c3b1 : decide (l0.length < l1.length) = false:=decide_eq_false (fun h=>c3 (Int.ofNat_lt.mpr h))
  clear c3
  have H':=aM_ H
  clear H
  go_enter Try.func113,Try.ntmps113
  go_wp2
  (try simp only [Act.put,sI_,sS_,sZ_])
  go_loopg [14] k (fun kq v14 w'=>∃ (x14_1 : Int),v14 = .int .i64 x14_1 ∧ Aside0 (impl_FitsAll.l0 kq l0 l1 (l1.length : Int) x14_1 = some r) ∧ Aside0 (kq ≤ k) ∧ Aside0 (Below w.heap.size w w'))
  case atStart=>exact ⟨(0),(by first | rfl | (simp;done) | (simp [*];done)),H', ⟨Nat.le_refl _⟩,⟨by exact bZ_ HB⟩⟩
  case round =>
   clear H'
   try clear c1
   try clear p2
   try clear c3
   try clear c3b0
   try clear c3b1
   obtain ⟨x14_1,rfl,HA,HK1,HB⟩:=hrel
   cases gk with
   | zero=>exact absurd HA.out (by simp [impl_FitsAll.l0])
   | succ k1 =>
    have H:=HA.out
    clear HA
    simp only [impl_FitsAll.l0] at H
    by_cases c4 : x14_1 < (l1.length : Int)
    ·rw [if_pos c4] at H
     have c4b0 : decide (x14_1 < (l1.length : Int)) = true:=decide_eq_true c4
     clear c4
     by_cases c5 : 0 ≤ x14_1
     ·rw [if_pos c5] at H
      have c5b0 : decide (0 ≤ x14_1) = true:=decide_eq_true c5
      clear c5
      by_cases c6 : x14_1 < (l1.length : Int)
      ·rw [if_pos c6] at H
       have c6b0 : decide (x14_1 < (l1.length : Int)) = true:=decide_eq_true c6
       clear c6
       by_cases c7 : x14_1 < (l0.length : Int)
       ·rw [if_pos c7] at H
        have c7b0 : decide (x14_1 < (l0.length : Int)) = true:=decide_eq_true c7
        clear c7
        replace H:=oB_ H
        obtain ⟨t119,A80,H⟩:=H
        replace H : (if t119 = true then (impl_FitsAll.l0 k1 l0 l1 (l1.length : Int) (wrap64 (x14_1 + 1))) else (some false)) = some r:=H
        have A8:=aM_ A80
        clear A80
        by_cases c9 : t119 = true
        ·subst c9
         have H1 : (impl_FitsAll.l0 k1 l0 l1 (l1.length : Int) (wrap64 (x14_1 + 1))) = some r:=by rw [if_pos rfl] at H;exact H
         clear H
         have H:=H1
         clear H1
         have H':=aM_ H
         clear H
         have p116 : 0 ≤ (x14_1 : Int):=oT_ (by first | (with_reducible assumption) | assumption)
         have q116 : x14_1 < (l1.length : Int):=oT_ (by first | (with_reducible assumption) | assumption)
         obtain ⟨ad116,e116,hx116_0,hx116_1,hx116_2⟩:=at_T116 HR1.out x14_1 p116 q116
         cases e116
         replace hx116_0:=(HB.out.cell (wL_ w _ hx116_0)).trans hx116_0
         replace hx116_1:=(HB.out.cell (wL_ w _ hx116_1)).trans hx116_1
         replace hx116_2:=(HB.out.cell (wL_ w _ hx116_2)).trans hx116_2
         replace p116:=eq_true p116
         replace q116:=eq_true q116
         try go_wp2_with (first | ((with_reducible refine gate_dst (N:=6) rfl ?_);refine box_event ?hg (N:=6) ?hd (cs:=#[.int .i64 0,.int .i64 0,.string (⟨#[]⟩ : ByteArray)]) (t:=116) ?hr ?_;(case hd=>rfl);(case hg=>rfl);(case hr=>first | (go_simp;done) | (go_simp;rfl));intro gb117 hg w10 hbox hb;have n0_:=aM_ (bT_ (by exact bZ_ HB) hb);have n1_:=aM_ (hbox);have n2_:=aM_ ((by rw [hg];exact (bS_ (by exact bZ_ HB)) : w.heap.size ≤ gb117));have n3_:=aM_ ((by rw [hg];exact (bS_ (by exact bZ_ HB)) : w.heap.size ≤ gb117));clear HB;have HB:=n0_;have BK117:=n1_;have GW117:=n2_;have GE117:=n3_;clear n0_ n1_ n2_ n3_;clear hb hbox hg;have hcz11_0 : w10.cell? ⟨gb117,0,none⟩ = some (.int .i64 0):=(kC_ BK117.out 0).trans rfl;have hcz11_1 : w10.cell? ⟨gb117,1,none⟩ = some (.int .i64 0):=(kC_ BK117.out 1).trans rfl;have hcz11_2 : w10.cell? ⟨gb117,2,none⟩ = some (.string (⟨#[]⟩ : ByteArray)):=(kC_ BK117.out 2).trans rfl;have hfz11_0:=kF_ BK117.out 0;have hfz11_1:=kF_ BK117.out 1;have hfz11_2:=kF_ BK117.out 2))
         have n0_ : Aside0 ((((w10.setCell ⟨gb117,0,none⟩ (.int .i64 ((rd_T116 l1 x14_1).f0))).setCell ⟨gb117,1,none⟩ (.int .i64 ((rd_T116 l1 x14_1).f1))).setCell ⟨gb117,2,none⟩ (.string ((rd_T116 l1 x14_1).f2))).heap[gb117]? = some (.cells #[.int .i64 ((rd_T116 l1 x14_1).f0),.int .i64 ((rd_T116 l1 x14_1).f1),.string ((rd_T116 l1 x14_1).f2)] 116 (0,0))):=⟨by (with_reducible repeat (first | refine kN_ ?_ _ | refine kD_ ?_ | refine kA_ ?_ _));refine kP_ (cs:=#[.int .i64 ((rd_T116 l1 x14_1).f0),.int .i64 ((rd_T116 l1 x14_1).f1),.string (⟨#[]⟩ : ByteArray)]) ?_ 2 _ rfl;(with_reducible repeat (first | refine kN_ ?_ _ | refine kD_ ?_ | refine kA_ ?_ _));refine kP_ (cs:=#[.int .i64 ((rd_T116 l1 x14_1).f0),.int .i64 0,.string (⟨#[]⟩ : ByteArray)]) ?_ 1 _ rfl;(with_reducible repeat (first | refine kN_ ?_ _ | refine kD_ ?_ | refine kA_ ?_ _));refine kP_ (cs:=#[.int .i64 0,.int .i64 0,.string (⟨#[]⟩ : ByteArray)]) ?_ 0 _ rfl;exact kZ_ BK117⟩
         have n1_ : Aside0 (Below w.heap.size w (((w10.setCell ⟨gb117,0,none⟩ (.int .i64 ((rd_T116 l1 x14_1).f0))).setCell ⟨gb117,1,none⟩ (.int .i64 ((rd_T116 l1 x14_1).f1))).setCell ⟨gb117,2,none⟩ (.string ((rd_T116 l1 x14_1).f2)))):=⟨by exact bZ_ HB⟩
         (try clear BK117)
         (try clear HB)
         generalize (((w10.setCell ⟨gb117,0,none⟩ (.int .i64 ((rd_T116 l1 x14_1).f0))).setCell ⟨gb117,1,none⟩ (.int .i64 ((rd_T116 l1 x14_1).f1))).setCell ⟨gb117,2,none⟩ (.string ((rd_T116 l1 x14_1).f2))) = w12 at n0_ n1_ ⊢
         have BK117:=n0_
         have HB:=n1_
         clear n0_ n1_
         have n0_:=aM_ (kD_ BK117.out)
         have n1_:=aM_ (bD_ HB.out)
         clear BK117
         clear HB
         have BK117:=n0_
         have HB:=n1_
         clear n0_ n1_
         have p118 : 0 ≤ (x14_1 : Int):=oT_ (by first | (with_reducible assumption) | assumption)
         have q118 : x14_1 < (l0.length : Int):=oT_ (by first | (with_reducible assumption) | assumption)
         obtain ⟨ad118,e118,hx118_0,hx118_1,hx118_2,hx118_3⟩:=at_T119 HR0.out x14_1 p118 q118
         have hw118_3:=hx118_3
         have hw118_2:=hx118_2
         have hw118_1:=hx118_1
         have hw118_0:=hx118_0
         cases e118
         replace hx118_0:=(HB.out.cell (wL_ w _ hx118_0)).trans hx118_0
         replace hx118_1:=(HB.out.cell (wL_ w _ hx118_1)).trans hx118_1
         replace hx118_2:=(HB.out.cell (wL_ w _ hx118_2)).trans hx118_2
         replace hx118_3:=(HB.out.cell (wL_ w _ hx118_3)).trans hx118_3
         replace p118:=eq_true p118
         replace q118:=eq_true q118
         refine start_ (n:=7) (S:=fun w'=>w'.cell? ⟨gb117,0,none⟩ = some (.int .i64 ((rd_T116 l1 x14_1).f0)) ∧ w'.cell? ⟨gb117,1,none⟩ = some (.int .i64 ((rd_T116 l1 x14_1).f1)) ∧ w'.cell? ⟨gb117,2,none⟩ = some (.string ((rd_T116 l1 x14_1).f2)) ∧ w'.cell? (ad118.add ((x14_1).toNat * 4)) = some (.int .i64 ((rd_T119 l0 x14_1).f0)) ∧ w'.cell? ⟨(ad118.add ((x14_1).toNat * 4)).block,(ad118.add ((x14_1).toNat * 4)).off + 1,none⟩ = some (.int .i64 ((rd_T119 l0 x14_1).f1)) ∧ w'.cell? ⟨(ad118.add ((x14_1).toNat * 4)).block,(ad118.add ((x14_1).toNat * 4)).off + 2,none⟩ = some (.bool ((rd_T119 l0 x14_1).f2)) ∧ w'.cell? ⟨(ad118.add ((x14_1).toNat * 4)).block,(ad118.add ((x14_1).toNat * 4)).off + 3,none⟩ = some (.bool ((rd_T119 l0 x14_1).f3))) (ds:=[]) #[false,false,false,false,false,false,false] (by kernel_rfl) rfl rfl ⟨(kC_ BK117.out 0).trans rfl,(kC_ BK117.out 1).trans rfl,(kC_ BK117.out 2).trans rfl,((HB.out.cell (wL_ w _ hw118_0)).trans hw118_0),((HB.out.cell (wL_ w _ hw118_1)).trans hw118_1),((HB.out.cell (wL_ w _ hw118_2)).trans hw118_2),((HB.out.cell (wL_ w _ hw118_3)).trans hw118_3)⟩ (fun hHeld=>?_)
         generalize w12.drew = w13 at BK117 HB hx118_0 hx118_1 hx118_2 hx118_3 hHeld ⊢
         refine pure_ (i:=0) (N:=some 19) (v:=?_) (a':=?_) #[true,false,false,false,false,false,false] rfl rfl (by kernel_rfl) (fun _ _ _ h=>h) (Or.inl ⟨by rfl,?_⟩) ?_ ?_
         rotate_left
         ·intro w'
          go_simp
          with_reducible rfl
         rotate_left
         ·simp only [Act.put,sI_,sZ_,sS_,i64_w,i32_w]
          rfl
         refine pure_ (i:=1) (N:=some 20) (v:=?_) (a':=?_) #[true,true,false,false,false,false,false] rfl rfl (by kernel_rfl) (fun _ _ _ h=>h) (Or.inl ⟨by rfl,?_⟩) ?_ ?_
         rotate_left
         ·intro w'
          go_simp
          with_reducible rfl
         rotate_left
         ·simp only [Act.put,sI_,sZ_,sS_,i64_w,i32_w]
          rfl
         refine pure_ (i:=2) (N:=some 21) (v:=?_) (a':=?_) #[true,true,true,false,false,false,false] rfl rfl (by kernel_rfl) (fun _ _ _ h=>h) (Or.inl ⟨by rfl,?_⟩) ?_ ?_
         rotate_left
         ·intro w'
          go_simp
          with_reducible rfl
         rotate_left
         ·simp only [Act.put,sI_,sZ_,sS_,i64_w,i32_w]
          rfl
         refine take_ (i:=3) (N:=some 22) (v:=?_) (a':=?_) #[true,true,true,true,false,false,false] rfl rfl (by kernel_rfl) (fun _ _ _ h=>h) (Or.inl ⟨by rfl,?_⟩) hHeld ?_ ?_
         rotate_left
         ·rintro w' ⟨s0,s1,s2,s3,s4,s5,s6⟩
          go_simp
          with_reducible rfl
         rotate_left
         ·simp only [Act.put,sI_,sZ_,sS_,i64_w,i32_w]
          rfl
         refine take_ (i:=4) (N:=some 23) (v:=?_) (a':=?_) #[true,true,true,true,true,false,false] rfl rfl (by kernel_rfl) (fun _ _ _ h=>h) (Or.inl ⟨by rfl,?_⟩) hHeld ?_ ?_
         rotate_left
         ·rintro w' ⟨s0,s1,s2,s3,s4,s5,s6⟩
          go_simp
          with_reducible rfl
         rotate_left
         ·simp only [Act.put,sI_,sZ_,sS_,i64_w,i32_w]
          rfl
         refine one_ (i:=5) (N:=some 24) #[true,true,true,true,true,true,false] rfl rfl (by kernel_rfl) (by decide) (fun K hK=>?_)
         refine goes_ Try.func162 (by kernel_rfl) rfl #[.agg #[.int .i64 ((rd_T119 l0 x14_1).f0),.int .i64 ((rd_T119 l0 x14_1).f1),.bool ((rd_T119 l0 x14_1).f2),.bool ((rd_T119 l0 x14_1).f3)],.agg #[.int .i64 ((rd_T116 l1 x14_1).f0),.int .i64 ((rd_T116 l1 x14_1).f1),.string ((rd_T116 l1 x14_1).f2)]] (by rfl) rfl rfl (by (try simp only [mA_,mC_,mN_]);first | done | rfl | (simp only [lD_,lT_];rfl)) ?_
         with_reducible refine (impl_Fits.calls ((rd_T119 l0 x14_1).f0) ((rd_T119 l0 x14_1).f1) ((rd_T119 l0 x14_1).f2) ((rd_T119 l0 x14_1).f3) ((rd_T116 l1 x14_1).f0) ((rd_T116 l1 x14_1).f1) ((rd_T116 l1 x14_1).f2) true _ A8.out).mono ?_
         rintro e w14 ⟨rfl,hb⟩
         refine ⟨_,rfl,?_⟩
         have n0_:=aM_ (blk_below (g:=gb117) (o:=.cells #[.int .i64 ((rd_T116 l1 x14_1).f0),.int .i64 ((rd_T116 l1 x14_1).f1),.string ((rd_T116 l1 x14_1).f2)] 116 (0,0)) (by exact kZ_ BK117) hb)
         have n1_:=aM_ (bT_ (by exact bZ_ HB) hb)
         clear BK117
         clear HB
         have BK117:=n0_
         have HB:=n1_
         clear n0_ n1_
         (try clear hb)
         (try clear hb2)
         (try clear hk)
         (try clear hi)
         refine hK.out _ _ ⟨(kC_ BK117.out 0).trans rfl,(kC_ BK117.out 1).trans rfl,(kC_ BK117.out 2).trans rfl,((HB.out.cell (wL_ w _ hw118_0)).trans hw118_0),((HB.out.cell (wL_ w _ hw118_1)).trans hw118_1),((HB.out.cell (wL_ w _ hw118_2)).trans hw118_2),((HB.out.cell (wL_ w _ hw118_3)).trans hw118_3)⟩ (fun hHeld=>?_)
         clear hK K
         refine norm_ (a':=?_) ?_ ?_
         rotate_left
         ·show Act.put _ (some 24) _ = _
          simp only [Act.put,sI_,sZ_,sS_,i64_w,i32_w]
          rfl
         refine pure_ (i:=6) (N:=some 25) (v:=?_) (a':=?_) #[true,true,true,true,true,true,true] rfl rfl (by kernel_rfl) (fun _ _ _ h=>h) (Or.inl ⟨by rfl,?_⟩) ?_ ?_
         rotate_left
         ·intro w'
          go_simp
          with_reducible rfl
         rotate_left
         ·simp only [Act.put,sI_,sZ_,sS_,i64_w,i32_w]
          rfl
         refine done_ (by kernel_rfl) ?_
         try go_wp2
         go_roundg k1
         case measure=>have:=HK1.out;omega
         case rel=>exact ⟨(wrap64 (x14_1 + 1)),(by first | rfl | (simp;done) | (simp [*];done)),H', ⟨by have:=HK1.out;omega⟩,⟨by exact bZ_ HB⟩⟩
        ·replace c9:=Bool.eq_false_iff.mpr c9
         subst c9
         have H1 : (some false) = some r:=by rw [if_neg (show ¬ (false = true) by decide)] at H;exact H
         clear H
         have H:=H1
         clear H1
         obtain rfl:=Option.some.inj H
         have p116 : 0 ≤ (x14_1 : Int):=oT_ (by first | (with_reducible assumption) | assumption)
         have q116 : x14_1 < (l1.length : Int):=oT_ (by first | (with_reducible assumption) | assumption)
         obtain ⟨ad116,e116,hx116_0,hx116_1,hx116_2⟩:=at_T116 HR1.out x14_1 p116 q116
         cases e116
         replace hx116_0:=(HB.out.cell (wL_ w _ hx116_0)).trans hx116_0
         replace hx116_1:=(HB.out.cell (wL_ w _ hx116_1)).trans hx116_1
         replace hx116_2:=(HB.out.cell (wL_ w _ hx116_2)).trans hx116_2
         replace p116:=eq_true p116
         replace q116:=eq_true q116
         try go_wp2_with (first | ((with_reducible refine gate_dst (N:=6) rfl ?_);refine box_event ?hg (N:=6) ?hd (cs:=#[.int .i64 0,.int .i64 0,.string (⟨#[]⟩ : ByteArray)]) (t:=116) ?hr ?_;(case hd=>rfl);(case hg=>rfl);(case hr=>first | (go_simp;done) | (go_simp;rfl));intro gb117 hg w15 hbox hb;have n0_:=aM_ (bT_ (by exact bZ_ HB) hb);have n1_:=aM_ (hbox);have n2_:=aM_ ((by rw [hg];exact (bS_ (by exact bZ_ HB)) : w.heap.size ≤ gb117));have n3_:=aM_ ((by rw [hg];exact (bS_ (by exact bZ_ HB)) : w.heap.size ≤ gb117));clear HB;have HB:=n0_;have BK117:=n1_;have GW117:=n2_;have GE117:=n3_;clear n0_ n1_ n2_ n3_;clear hb hbox hg;have hcz16_0 : w15.cell? ⟨gb117,0,none⟩ = some (.int .i64 0):=(kC_ BK117.out 0).trans rfl;have hcz16_1 : w15.cell? ⟨gb117,1,none⟩ = some (.int .i64 0):=(kC_ BK117.out 1).trans rfl;have hcz16_2 : w15.cell? ⟨gb117,2,none⟩ = some (.string (⟨#[]⟩ : ByteArray)):=(kC_ BK117.out 2).trans rfl;have hfz16_0:=kF_ BK117.out 0;have hfz16_1:=kF_ BK117.out 1;have hfz16_2:=kF_ BK117.out 2))
         have n0_ : Aside0 ((((w15.setCell ⟨gb117,0,none⟩ (.int .i64 ((rd_T116 l1 x14_1).f0))).setCell ⟨gb117,1,none⟩ (.int .i64 ((rd_T116 l1 x14_1).f1))).setCell ⟨gb117,2,none⟩ (.string ((rd_T116 l1 x14_1).f2))).heap[gb117]? = some (.cells #[.int .i64 ((rd_T116 l1 x14_1).f0),.int .i64 ((rd_T116 l1 x14_1).f1),.string ((rd_T116 l1 x14_1).f2)] 116 (0,0))):=⟨by (with_reducible repeat (first | refine kN_ ?_ _ | refine kD_ ?_ | refine kA_ ?_ _));refine kP_ (cs:=#[.int .i64 ((rd_T116 l1 x14_1).f0),.int .i64 ((rd_T116 l1 x14_1).f1),.string (⟨#[]⟩ : ByteArray)]) ?_ 2 _ rfl;(with_reducible repeat (first | refine kN_ ?_ _ | refine kD_ ?_ | refine kA_ ?_ _));refine kP_ (cs:=#[.int .i64 ((rd_T116 l1 x14_1).f0),.int .i64 0,.string (⟨#[]⟩ : ByteArray)]) ?_ 1 _ rfl;(with_reducible repeat (first | refine kN_ ?_ _ | refine kD_ ?_ | refine kA_ ?_ _));refine kP_ (cs:=#[.int .i64 0,.int .i64 0,.string (⟨#[]⟩ : ByteArray)]) ?_ 0 _ rfl;exact kZ_ BK117⟩
         have n1_ : Aside0 (Below w.heap.size w (((w15.setCell ⟨gb117,0,none⟩ (.int .i64 ((rd_T116 l1 x14_1).f0))).setCell ⟨gb117,1,none⟩ (.int .i64 ((rd_T116 l1 x14_1).f1))).setCell ⟨gb117,2,none⟩ (.string ((rd_T116 l1 x14_1).f2)))):=⟨by exact bZ_ HB⟩
         (try clear BK117)
         (try clear HB)
         generalize (((w15.setCell ⟨gb117,0,none⟩ (.int .i64 ((rd_T116 l1 x14_1).f0))).setCell ⟨gb117,1,none⟩ (.int .i64 ((rd_T116 l1 x14_1).f1))).setCell ⟨gb117,2,none⟩ (.string ((rd_T116 l1 x14_1).f2))) = w17 at n0_ n1_ ⊢
         have BK117:=n0_
         have HB:=n1_
         clear n0_ n1_
         have n0_:=aM_ (kD_ BK117.out)
         have n1_:=aM_ (bD_ HB.out)
         clear BK117
         clear HB
         have BK117:=n0_
         have HB:=n1_
         clear n0_ n1_
         have p118 : 0 ≤ (x14_1 : Int):=oT_ (by first | (with_reducible assumption) | assumption)
         have q118 : x14_1 < (l0.length : Int):=oT_ (by first | (with_reducible assumption) | assumption)
         obtain ⟨ad118,e118,hx118_0,hx118_1,hx118_2,hx118_3⟩:=at_T119 HR0.out x14_1 p118 q118
         have hw118_3:=hx118_3
         have hw118_2:=hx118_2
         have hw118_1:=hx118_1
         have hw118_0:=hx118_0
         cases e118
         replace hx118_0:=(HB.out.cell (wL_ w _ hx118_0)).trans hx118_0
         replace hx118_1:=(HB.out.cell (wL_ w _ hx118_1)).trans hx118_1
         replace hx118_2:=(HB.out.cell (wL_ w _ hx118_2)).trans hx118_2
         replace hx118_3:=(HB.out.cell (wL_ w _ hx118_3)).trans hx118_3
         replace p118:=eq_true p118
         replace q118:=eq_true q118
         refine start_ (n:=7) (S:=fun w'=>w'.cell? ⟨gb117,0,none⟩ = some (.int .i64 ((rd_T116 l1 x14_1).f0)) ∧ w'.cell? ⟨gb117,1,none⟩ = some (.int .i64 ((rd_T116 l1 x14_1).f1)) ∧ w'.cell? ⟨gb117,2,none⟩ = some (.string ((rd_T116 l1 x14_1).f2)) ∧ w'.cell? (ad118.add ((x14_1).toNat * 4)) = some (.int .i64 ((rd_T119 l0 x14_1).f0)) ∧ w'.cell? ⟨(ad118.add ((x14_1).toNat * 4)).block,(ad118.add ((x14_1).toNat * 4)).off + 1,none⟩ = some (.int .i64 ((rd_T119 l0 x14_1).f1)) ∧ w'.cell? ⟨(ad118.add ((x14_1).toNat * 4)).block,(ad118.add ((x14_1).toNat * 4)).off + 2,none⟩ = some (.bool ((rd_T119 l0 x14_1).f2)) ∧ w'.cell? ⟨(ad118.add ((x14_1).toNat * 4)).block,(ad118.add ((x14_1).toNat * 4)).off + 3,none⟩ = some (.bool ((rd_T119 l0 x14_1).f3))) (ds:=[]) #[false,false,false,false,false,false,false] (by kernel_rfl) rfl rfl ⟨(kC_ BK117.out 0).trans rfl,(kC_ BK117.out 1).trans rfl,(kC_ BK117.out 2).trans rfl,((HB.out.cell (wL_ w _ hw118_0)).trans hw118_0),((HB.out.cell (wL_ w _ hw118_1)).trans hw118_1),((HB.out.cell (wL_ w _ hw118_2)).trans hw118_2),((HB.out.cell (wL_ w _ hw118_3)).trans hw118_3)⟩ (fun hHeld=>?_)
         generalize w17.drew = w18 at BK117 HB hx118_0 hx118_1 hx118_2 hx118_3 hHeld ⊢
         refine pure_ (i:=0) (N:=some 19) (v:=?_) (a':=?_) #[true,false,false,false,false,false,false] rfl rfl (by kernel_rfl) (fun _ _ _ h=>h) (Or.inl ⟨by rfl,?_⟩) ?_ ?_
         rotate_left
         ·intro w'
          go_simp
          with_reducible rfl
         rotate_left
         ·simp only [Act.put,sI_,sZ_,sS_,i64_w,i32_w]
          rfl
         refine pure_ (i:=1) (N:=some 20) (v:=?_) (a':=?_) #[true,true,false,false,false,false,false] rfl rfl (by kernel_rfl) (fun _ _ _ h=>h) (Or.inl ⟨by rfl,?_⟩) ?_ ?_
         rotate_left
         ·intro w'
          go_simp
          with_reducible rfl
         rotate_left
         ·simp only [Act.put,sI_,sZ_,sS_,i64_w,i32_w]
          rfl
         refine pure_ (i:=2) (N:=some 21) (v:=?_) (a':=?_) #[true,true,true,false,false,false,false] rfl rfl (by kernel_rfl) (fun _ _ _ h=>h) (Or.inl ⟨by rfl,?_⟩) ?_ ?_
         rotate_left
         ·intro w'
          go_simp
          with_reducible rfl
         rotate_left
         ·simp only [Act.put,sI_,sZ_,sS_,i64_w,i32_w]
          rfl
         refine take_ (i:=3) (N:=some 22) (v:=?_) (a':=?_) #[true,true,true,true,false,false,false] rfl rfl (by kernel_rfl) (fun _ _ _ h=>h) (Or.inl ⟨by rfl,?_⟩) hHeld ?_ ?_
         rotate_left
         ·rintro w' ⟨s0,s1,s2,s3,s4,s5,s6⟩
          go_simp
          with_reducible rfl
         rotate_left
         ·simp only [Act.put,sI_,sZ_,sS_,i64_w,i32_w]
          rfl
         refine take_ (i:=4) (N:=some 23) (v:=?_) (a':=?_) #[true,true,true,true,true,false,false] rfl rfl (by kernel_rfl) (fun _ _ _ h=>h) (Or.inl ⟨by rfl,?_⟩) hHeld ?_ ?_
         rotate_left
         ·rintro w' ⟨s0,s1,s2,s3,s4,s5,s6⟩
          go_simp
          with_reducible rfl
         rotate_left
         ·simp only [Act.put,sI_,sZ_,sS_,i64_w,i32_w]
          rfl
         refine one_ (i:=5) (N:=some 24) #[true,true,true,true,true,true,false] rfl rfl (by kernel_rfl) (by decide) (fun K hK=>?_)
         refine goes_ Try.func162 (by kernel_rfl) rfl #[.agg #[.int .i64 ((rd_T119 l0 x14_1).f0),.int .i64 ((rd_T119 l0 x14_1).f1),.bool ((rd_T119 l0 x14_1).f2),.bool ((rd_T119 l0 x14_1).f3)],.agg #[.int .i64 ((rd_T116 l1 x14_1).f0),.int .i64 ((rd_T116 l1 x14_1).f1),.string ((rd_T116 l1 x14_1).f2)]] (by rfl) rfl rfl (by (try simp only [mA_,mC_,mN_]);first | done | rfl | (simp only [lD_,lT_];rfl)) ?_
         with_reducible refine (impl_Fits.calls ((rd_T119 l0 x14_1).f0) ((rd_T119 l0 x14_1).f1) ((rd_T119 l0 x14_1).f2) ((rd_T119 l0 x14_1).f3) ((rd_T116 l1 x14_1).f0) ((rd_T116 l1 x14_1).f1) ((rd_T116 l1 x14_1).f2) false _ A8.out).mono ?_
         rintro e w19 ⟨rfl,hb⟩
         refine ⟨_,rfl,?_⟩
         have n0_:=aM_ (blk_below (g:=gb117) (o:=.cells #[.int .i64 ((rd_T116 l1 x14_1).f0),.int .i64 ((rd_T116 l1 x14_1).f1),.string ((rd_T116 l1 x14_1).f2)] 116 (0,0)) (by exact kZ_ BK117) hb)
         have n1_:=aM_ (bT_ (by exact bZ_ HB) hb)
         clear BK117
         clear HB
         have BK117:=n0_
         have HB:=n1_
         clear n0_ n1_
         (try clear hb)
         (try clear hb2)
         (try clear hk)
         (try clear hi)
         refine hK.out _ _ ⟨(kC_ BK117.out 0).trans rfl,(kC_ BK117.out 1).trans rfl,(kC_ BK117.out 2).trans rfl,((HB.out.cell (wL_ w _ hw118_0)).trans hw118_0),((HB.out.cell (wL_ w _ hw118_1)).trans hw118_1),((HB.out.cell (wL_ w _ hw118_2)).trans hw118_2),((HB.out.cell (wL_ w _ hw118_3)).trans hw118_3)⟩ (fun hHeld=>?_)
         clear hK K
         refine norm_ (a':=?_) ?_ ?_
         rotate_left
         ·show Act.put _ (some 24) _ = _
          simp only [Act.put,sI_,sZ_,sS_,i64_w,i32_w]
          rfl
         refine pure_ (i:=6) (N:=some 25) (v:=?_) (a':=?_) #[true,true,true,true,true,true,true] rfl rfl (by kernel_rfl) (fun _ _ _ h=>h) (Or.inl ⟨by rfl,?_⟩) ?_ ?_
         rotate_left
         ·intro w'
          go_simp
          with_reducible rfl
         rotate_left
         ·simp only [Act.put,sI_,sZ_,sS_,i64_w,i32_w]
          rfl
         refine done_ (by kernel_rfl) ?_
         try go_wp2
         go_ret
         exact ⟨by first | rfl | (simp [errW_none,errW_some] <;> rfl) | (simp [*, errW_none,errW_some] <;> rfl),by exact bZ_ HB⟩
       ·rw [if_neg c7] at H
        exact absurd H (by simp)
      ·rw [if_neg c6] at H
       exact absurd H (by simp)
     ·rw [if_neg c5] at H
      exact absurd H (by simp)
    ·rw [if_neg c4] at H
     have c4b0 : decide (x14_1 < (l1.length : Int)) = false:=decide_eq_false c4
     clear c4
     obtain rfl:=Option.some.inj H
     go_wp2
     go_ret
     exact ⟨by first | rfl | (simp [errW_none,errW_some] <;> rfl) | (simp [*, errW_none,errW_some] <;> rfl),by exact bZ_ HB⟩
def impl_RowOk.f (k : Nat) (l0 : List (S119)) (l1 : List (S116)) : Option (Bool):=(impl_PlanOk.f k l0).bind fun t120=>(if t120 = true then (if (l1.length : Int) = (l0.length : Int) then ((impl_FitsAll.f k l0 l1).bind fun t121=>(some t121)) else (some false)) else (some false))
theorem impl_RowOk.mono : ∀ a0 a1 k,LeO (impl_RowOk.f k a0 a1) (impl_RowOk.f (k + 1) a0 a1):=by
 intro a0 a1 k
 unfold impl_RowOk.f
 repeat' first
   | (with_reducible exact impl_FitsAll.mono _ _ _)
   | (with_reducible exact impl_PlanOk.mono _ _)
   | (with_reducible exact LeO.refl _)
   | (with_reducible exact LeO.none _)
   | (with_reducible refine LeO.ite ?_ ?_)
   | (with_reducible refine LeO.bind ?_ (fun _=>?_))
   | exact impl_FitsAll.mono _ _ _
   | exact impl_PlanOk.mono _ _
   | exact LeO.none _
   | refine LeO.ite ?_ ?_
   | refine LeO.bind ?_ (fun _=>?_)
set_option maxHeartbeats 8000000 in
set_option maxRecDepth 100000 in
theorem impl_RowOk.calls (k : Nat) (A0 : Option Addr) (c0 : Nat) (l0 : List (S119)) (A1 : Option Addr) (c1 : Nat) (l1 : List (S116)) (r : Bool) (w : World) (hr0 : Kd.C k119 w A0 l0.length l0) (hc0 : l0.length ≤ c0) (hr1 : Kd.C k116 w A1 l1.length l1) (hc1 : l1.length ≤ c1) (h : impl_RowOk.f k l0 l1 = some r) :
  Calls Try.prog 46 #[.slice A0 l0.length c0,.slice A1 l1.length c1] w fun e w'=>e = .returned (.bool r) ∧ Below w.heap.size w w':=by
 have HR0:=aM_ hr0
 have HC0:=aM_ hc0
 clear hr0 hc0
 have HR1:=aM_ hr1
 have HC1:=aM_ hc1
 clear hr1 hc1
 have HB:=aM_ (Below.refl w.heap.size w)
 have H : ((impl_PlanOk.f k l0).bind fun t120=>(if t120 = true then (if (l1.length : Int) = (l0.length : Int) then ((impl_FitsAll.f k l0 l1).bind fun t121=>(some t121)) else (some false)) else (some false))) = some r:=h
 clear h
 replace H:=oB_ H
 obtain ⟨t120,A30,H⟩:=H
 replace H : (if t120 = true then (if (l1.length : Int) = (l0.length : Int) then ((impl_FitsAll.f k l0 l1).bind fun t121=>(some t121)) else (some false)) else (some false)) = some r:=H
 have A3:=aM_ A30
 clear A30
 by_cases c4 : t120 = true
 ·subst c4
  have H1 : (if (l1.length : Int) = (l0.length : Int) then ((impl_FitsAll.f k l0 l1).bind fun t121=>(some t121)) else (some false)) = some r:=by rw [if_pos rfl] at H;exact H
  clear H
  have H:=H1
  clear H1
  by_cases c5 : (l1.length : Int) = (l0.length : Int)
  ·rw [if_pos c5] at H
   have c5b0 : ((l1.length : Int) == (l0.length : Int)) = true:=beq_iff_eq.mpr c5
   have c5b1 : ((l1.length : Int) != (l0.length : Int)) = false:=bne_eq_false_iff_eq.mpr c5
   have c5b2 : (l1.length == l0.length) = true:=by first | simpa using c5 | (simp at c5 ⊢;omega)
   clear c5
   replace H:=oB_ H
   obtain ⟨t121,A60,H⟩:=H
   replace H : (some t121) = some r:=H
   have A6:=aM_ A60
   clear A60
   obtain rfl:=Option.some.inj H
   go_enter Try.func46,Try.ntmps46
   go_wp2_with (first | ((with_reducible refine gate_callee (f:=112) rfl ?_);refine goesL_ (some 6) rfl rfl Try.func112 (by kernel_rfl) rfl #[.slice A0 l0.length c0] rfl (by (try simp only [mA_,mC_,mN_]);first | done | rfl | (simp only [lD_,lT_];rfl)) ?_;(with_reducible refine (impl_PlanOk.calls k _ _ l0 true _ ?side1 ?side2 A3.out).mono ?_);(case side1=>repeat (first | exact HR0.out | (with_reducible refine cA_ ?_ _) | (with_reducible refine cN_ ?_ _) | (with_reducible refine cD_ ?_)));(case side2=>exact HC0.out);rintro e w7 ⟨rfl,hb⟩;refine ⟨_,rfl,?_⟩;have n0_:=aM_ (bT_ (by exact bZ_ HB) hb);clear HB;have HB:=n0_;clear n0_;(try clear hb);(try clear hb2);(try clear hk);(try clear hi)) | (go_at_call 113;(with_reducible refine (impl_FitsAll.calls k _ _ l0 _ _ l1 t121 _ ?side1 ?side2 ?side3 ?side4 A6.out).mono ?_);(case side1=>repeat (first | exact (Kd.C_below HR0.out HB.out) | (with_reducible refine cA_ ?_ _) | (with_reducible refine cN_ ?_ _) | (with_reducible refine cD_ ?_)));(case side2=>exact HC0.out);(case side3=>repeat (first | exact (Kd.C_below HR1.out HB.out) | (with_reducible refine cA_ ?_ _) | (with_reducible refine cN_ ?_ _) | (with_reducible refine cD_ ?_)));(case side4=>exact HC1.out);rintro e w8 ⟨rfl,hb⟩;have n0_:=aM_ (bT_ (by exact bZ_ HB) hb);clear HB;have HB:=n0_;clear n0_;(try clear hb);(try clear hb2);(try clear hk);(try clear hi)))
   go_ret
   exact ⟨by first | rfl | (simp [errW_none,errW_some] <;> rfl) | (simp [*, errW_none,errW_some] <;> rfl),by exact bZ_ HB⟩
  ·rw [if_neg c5] at H
   have c5b0 : ((l1.length : Int) == (l0.length : Int)) = false:=beq_eq_false_iff_ne.mpr c5
   have c5b1 : ((l1.length : Int) != (l0.length : Int)) = true:=bne_iff_ne.mpr c5
   have c5b2 : (l1.length == l0.length) = false:=by first | simpa using c5 | (simp at c5 ⊢;omega)
   obtain rfl:=Option.some.inj H
   go_enter Try.func46,Try.ntmps46
   go_wp2_with (first | ((with_reducible refine gate_callee (f:=112) rfl ?_);refine goesL_ (some 6) rfl rfl Try.func112 (by kernel_rfl) rfl #[.slice A0 l0.length c0] rfl (by (try simp only [mA_,mC_,mN_]);first | done | rfl | (simp only [lD_,lT_];rfl)) ?_;(with_reducible refine (impl_PlanOk.calls k _ _ l0 true _ ?side1 ?side2 A3.out).mono ?_);(case side1=>repeat (first | exact HR0.out | (with_reducible refine cA_ ?_ _) | (with_reducible refine cN_ ?_ _) | (with_reducible refine cD_ ?_)));(case side2=>exact HC0.out);rintro e w9 ⟨rfl,hb⟩;refine ⟨_,rfl,?_⟩;have n0_:=aM_ (bT_ (by exact bZ_ HB) hb);clear HB;have HB:=n0_;clear n0_;(try clear hb);(try clear hb2);(try clear hk);(try clear hi)))
   go_ret
   exact ⟨by first | rfl | (simp [errW_none,errW_some] <;> rfl) | (simp [*, errW_none,errW_some] <;> rfl),by exact bZ_ HB⟩
 ·replace c4:=Bool.eq_false_iff.mpr c4
  subst c4
  have H1 : (some false) = some r:=by rw [if_neg (show ¬ (false = true) by decide)] at H;exact H
  clear H
  have H:=H1
  clear H1
  obtain rfl:=Option.some.inj H
  go_enter Try.func46,Try.ntmps46
  go_wp2_with (first | ((with_reducible refine gate_callee (f:=112) rfl ?_);refine goesL_ (some 6) rfl rfl Try.func112 (by kernel_rfl) rfl #[.slice A0 l0.length c0] rfl (by (try simp only [mA_,mC_,mN_]);first | done | rfl | (simp only [lD_,lT_];rfl)) ?_;(with_reducible refine (impl_PlanOk.calls k _ _ l0 false _ ?side1 ?side2 A3.out).mono ?_);(case side1=>repeat (first | exact HR0.out | (with_reducible refine cA_ ?_ _) | (with_reducible refine cN_ ?_ _) | (with_reducible refine cD_ ?_)));(case side2=>exact HC0.out);rintro e w10 ⟨rfl,hb⟩;refine ⟨_,rfl,?_⟩;have n0_:=aM_ (bT_ (by exact bZ_ HB) hb);clear HB;have HB:=n0_;clear n0_;(try clear hb);(try clear hb2);(try clear hk);(try clear hi)))
  go_ret
  exact ⟨by first | rfl | (simp [errW_none,errW_some] <;> rfl) | (simp [*, errW_none,errW_some] <;> rfl),by exact bZ_ HB⟩
def impl_clamp.f (a0 : Int) (a1 : Int) (a2 : Int) : Option (Int):=some (mx a1 (mn a0 a2))
set_option maxHeartbeats 8000000 in
set_option maxRecDepth 100000 in
theorem impl_clamp.calls (a0 : Int) (a1 : Int) (a2 : Int) (r : Int) (w : World) (h : impl_clamp.f a0 a1 a2 = some r) :
  Calls Try.prog 149 #[.int .i64 a0,.int .i64 a1,.int .i64 a2] w fun e w'=>e = .returned (.int .i64 r) ∧ Below w.heap.size w w':=by
 have HB:=aM_ (Below.refl w.heap.size w)
 have H : (some (mx a1 (mn a0 a2))) = some r:=h
 clear h
 obtain ⟨ji4,hji4⟩ : ∃ j_ : Int,(mn a0 a2) = j_:=⟨_,rfl⟩
 replace H : (some (mx a1 (ji4))) = some r:=by first | (rw [hji4] at H;exact H) | (simp only [hji4] at H ⊢;exact H)
 have hji4_ : (if a2 < a0 then a2 else a0) = ji4:=hji4
 obtain ⟨ji5,hji5⟩ : ∃ j_ : Int,(mx a1 (ji4)) = j_:=⟨_,rfl⟩
 replace H : (some ji5) = some r:=by first | (rw [hji5] at H;exact H) | (simp only [hji5] at H ⊢;exact H)
 have hji5_ : (if a1 < (ji4) then (ji4) else a1) = ji5:=hji5
 obtain rfl:=Option.some.inj H
 go_enter Try.func149,Try.ntmps149
 go_wp2
 go_ret
 exact ⟨by first | rfl | (simp [errW_none,errW_some] <;> rfl) | (simp only [← hji4,← hji5];first | rfl | (simp [errW_none,errW_some] <;> rfl)) | (simp [*, errW_none,errW_some] <;> rfl),by exact bZ_ HB⟩
def impl_addU.l0 : Nat → List Int → Int → Option (List Int)
 | 0,_,_=>none
 | k + 1,x0,x1=>if x1 > 127 then (if x0.length < 140737488355328 then (impl_addU.l0 k (x0 ++ [(wrap64 ((Int.tmod x1 128) + 128)) % 256]) (wrap64 (Int.tdiv x1 128))) else (none)) else (if x0.length < 140737488355328 then (some (x0 ++ [(x1) % 256])) else (none))
def impl_addU.f (k : Nat) (l0 : List Int) (a1 : Int) : Option (List Int):=(impl_clamp.f a1 0 1000000).bind fun t122=>(impl_addU.l0 k l0 t122)
theorem impl_addU.mono_l : ∀ k,(∀ y0 y1,LeO (impl_addU.l0 k y0 y1) (impl_addU.l0 (k + 1) y0 y1))
 | 0=>fun _ _ r h=>by simp [impl_addU.l0] at h
 | k + 1=>by
  have ih0:=impl_addU.mono_l k
  ·intro y0 y1
   unfold impl_addU.l0
   repeat' first
   | (with_reducible exact ih0 _ _)
   | (with_reducible exact LeO.refl _)
   | (with_reducible exact LeO.none _)
   | (with_reducible refine LeO.ite ?_ ?_)
   | (with_reducible refine LeO.bind ?_ (fun _=>?_))
   | exact ih0 _ _
   | exact LeO.none _
   | refine LeO.ite ?_ ?_
   | refine LeO.bind ?_ (fun _=>?_)
theorem impl_addU.mono : ∀ a0 a1 k,LeO (impl_addU.f k a0 a1) (impl_addU.f (k + 1) a0 a1):=by
 intro a0 a1 k
 have ih0:=impl_addU.mono_l k
 unfold impl_addU.f
 repeat' first
   | (with_reducible exact ih0 _ _)
   | (with_reducible exact LeO.refl _)
   | (with_reducible exact LeO.none _)
   | (with_reducible refine LeO.ite ?_ ?_)
   | (with_reducible refine LeO.bind ?_ (fun _=>?_))
   | exact ih0 _ _
   | exact LeO.none _
   | refine LeO.ite ?_ ?_
   | refine LeO.bind ?_ (fun _=>?_)
set_option maxHeartbeats 8000000 in
set_option maxRecDepth 100000 in
theorem impl_addU.calls (k : Nat) (P0_ : Nat → Prop) (u9000_ : Value) (l0 : List Int) (a1 : Int) (r : List Int) (w0 w : World) (hB : Below w0.heap.size w0 w) (ho0 : Kd.R (Kd.int .u8) 5 w w0.heap.size P0_ u9000_ l0) (h : impl_addU.f k l0 a1 = some r) :
  Calls Try.prog 99 #[u9000_,.int .i64 a1] w fun e w'=>∃ v0_ : Value,e = .returned (v0_) ∧ Kd.R (Kd.int .u8) 5 w' w0.heap.size (fun k_=>(P0_ k_ ∨ w.heap.size ≤ k_)) v0_ r ∧ Below w0.heap.size w0 w' ∧ Kept w w' (fun k_=>P0_ k_):=by
 have HO0:=aM_ (show Kd.R (Kd.int .u8) 5 w w0.heap.size (fun k_=>(P0_ k_ ∨ w.heap.size ≤ k_)) u9000_ l0 from Kd.R_mono ho0 (fun k_ hk=>(.inl hk)))
 have HK:=aM_ (Kept.refl w (fun k_=>P0_ k_))
 have HW0:=aM_ hB.size
 have HB:=aM_ hB
 clear hB
 have H : ((impl_clamp.f a1 0 1000000).bind fun t122=>(impl_addU.l0 k l0 t122)) = some r:=h
 clear h
 replace H:=oB_ H
 obtain ⟨t122,A30,H⟩:=H
 replace H : (impl_addU.l0 k l0 t122) = some r:=H
 have A3:=aM_ A30
 clear A30
 have H':=aM_ H
 clear H
 go_enter Try.func99,Try.ntmps99
 go_wp2_with (first | ((with_reducible refine gate_callee (f:=149) rfl ?_);refine goesL_ (some 6) rfl rfl Try.func149 (by kernel_rfl) rfl #[.int .i64 a1,.int .i64 0,.int .i64 1000000] rfl (by (try simp only [mA_,mC_,mN_]);first | done | rfl | (simp only [lD_,lT_];rfl)) ?_;(with_reducible refine (impl_clamp.calls a1 0 1000000 t122 _ A3.out).mono ?_);rintro e w4 ⟨rfl,hb⟩;refine ⟨_,rfl,?_⟩;have n0_:=aM_ (Kd.R_below (by exact rZ_ HO0) hb);have n1_:=aM_ (Kept.below (S:=(fun k_=>P0_ k_)) (by repeat (first | (with_reducible first | exact HK.out | apply Kept.alloc | apply Kept.drewN | apply Kept.drew) | exact HK.out)) hb);have n2_:=aM_ (bT_ (by exact bZ_ HB) hb);clear HO0;clear HK;clear HB;have HO0:=n0_;have HK:=n1_;have HB:=n2_;clear n0_ n1_ n2_;(try clear hb);(try clear hb2);(try clear hk);(try clear hi)))
 (try simp only [Act.put,sI_,sS_,sZ_])
 go_loopg [0,1] k (fun kq v0 v1 w'=>∃ (x0_1 : List Int) (x1_1 : Int),v1 = .int .i64 x1_1 ∧ Aside0 (impl_addU.l0 kq x0_1 x1_1 = some r) ∧ Aside0 (kq ≤ k) ∧ Aside0 (Kd.R (Kd.int .u8) 5 w' w0.heap.size (fun k_=>(P0_ k_ ∨ w.heap.size ≤ k_)) v0 x0_1) ∧ Aside0 (Kept w w' (fun k_=>P0_ k_)) ∧ Aside0 (Below w0.heap.size w0 w'))
 case atStart=>exact ⟨(l0),(t122),(by first | rfl | (simp;done) | (simp [*];done)),H', ⟨Nat.le_refl _⟩,⟨by exact rZ_ HO0⟩,⟨by repeat (first | (with_reducible first | exact HK.out | apply Kept.alloc | apply Kept.drewN | apply Kept.drew) | exact HK.out)⟩,⟨by exact bZ_ HB⟩⟩
 case round =>
  clear H'
  try clear c1
  try clear p2
  obtain ⟨x0_1,x1_1,rfl,HA,HK1,HO_0,HK,HB⟩:=hrel
  cases gk with
  | zero=>exact absurd HA.out (by simp [impl_addU.l0])
  | succ k1 =>
   have H:=HA.out
   clear HA
   simp only [impl_addU.l0] at H
   by_cases c5 : x1_1 > 127
   ·rw [if_pos c5] at H
    have c5b0 : decide (127 < x1_1) = true:=decide_eq_true c5
    clear c5
    by_cases c6 : x0_1.length < 140737488355328
    ·rw [if_pos c6] at H
     have LMc6:=aM_ c6
     clear c6
     obtain ⟨y123,hy123⟩ : ∃ y_ : List Int,y_ = (x0_1 ++ [(wrap64 ((Int.tmod x1_1 128) + 128)) % 256]):=⟨_,rfl⟩
     replace H : (impl_addU.l0 k1 y123 (wrap64 (Int.tdiv x1_1 128))) = some r:=by first | (rw [hy123];with_reducible exact H) | (have H2_:=(Option.bind_some _ _).symm.trans H;rw [hy123];with_reducible exact H2_) | (have H2_:=(Option.bind_some _ _).symm.trans H;with_reducible exact H2_) | with_reducible exact H | (rw [hy123];exact H) | exact H
     have Ny123:=aM_ hy123
     clear hy123
     have H':=aM_ H
     clear H
     go_wp2_with (first | ((with_reducible refine gate_builtin (b:=.append) (xs:=#[.tmp 9,.tmp 14]) rfl ?_);at_builtin;refine Kd.R_append (Kd.int .u8) (w0:=w0) w0.heap.size rfl (.tmp 9) (.tmp 14) 27 5 (.int .u8 0) 1 rfl Try.underlying27 info5 rfl (by decide) (by omega) u0 x0_1 ((wrap64 ((Int.tmod x1_1 128) + 128)) % 256) [.int .u8 ((wrap64 ((Int.tmod x1_1 128) + 128)) % 256)] (fun k_=>(P0_ k_ ∨ w.heap.size ≤ k_)) (fun _=>False) rfl rfl ?aP (fun _ hk=>hk.elim) ?aF ?aO ?aB ?aS ?aL ?_;(case aP=>exact rfl);(case aB=>exact (by exact bZ_ HB));(case aF=>exact (fun k_ hk=>(.inr (Nat.le_trans (by first | exact HK.out.1 | exact (show Kept w _ (fun k_=>P0_ k_) from by repeat (first | (with_reducible first | exact HK.out | apply Kept.alloc | apply Kept.drewN | apply Kept.drew) | exact HK.out)).1) hk))));(case aO=>exact (by exact rZ_ HO_0));(case aS=>exact (bS_ (by exact bZ_ HB)));(case aL=>have:=LMc6.out;omega);intro v124 w7 ho hb hg hat;rw [← Ny123.out] at ho;have n0_:=aM_ (hb);have n1_:=aM_ (Kept.of_grown (S:=(fun k_=>P0_ k_)) hg (by repeat (first | (with_reducible first | exact HK.out | apply Kept.alloc | apply Kept.drewN | apply Kept.drew) | exact HK.out)) (fun k_ e_=>(HO_0.out.1 k_ e_)));have n2_:=aM_ (ho);clear HB;clear HK;clear HO_0;have HB:=n0_;have HK:=n1_;have HO125:=n2_;clear n0_ n1_ n2_;clear ho hb hg hat))
     go_roundg k1
     case measure=>have:=HK1.out;omega
     case rel=>exact ⟨(y123),(wrap64 (Int.tdiv x1_1 128)),(by first | rfl | (simp;done) | (simp [*];done)),H', ⟨by have:=HK1.out;omega⟩,⟨by exact rZ_ HO125⟩,⟨by repeat (first | (with_reducible first | exact HK.out | apply Kept.alloc | apply Kept.drewN | apply Kept.drew) | exact HK.out)⟩,⟨by exact bZ_ HB⟩⟩
    ·rw [if_neg c6] at H
     exact absurd H (by simp)
   ·rw [if_neg c5] at H
    have c5b0 : decide (127 < x1_1) = false:=decide_eq_false c5
    clear c5
    by_cases c8 : x0_1.length < 140737488355328
    ·rw [if_pos c8] at H
     have LMc8:=aM_ c8
     clear c8
     obtain ⟨y126,hy126⟩ : ∃ y_ : List Int,y_ = (x0_1 ++ [(x1_1) % 256]):=⟨_,rfl⟩
     replace H : (some y126) = some r:=by first | (rw [hy126];with_reducible exact H) | (have H2_:=(Option.bind_some _ _).symm.trans H;rw [hy126];with_reducible exact H2_) | (have H2_:=(Option.bind_some _ _).symm.trans H;with_reducible exact H2_) | with_reducible exact H | (rw [hy126];exact H) | exact H
     have Ny126:=aM_ hy126
     clear hy126
     obtain rfl:=Option.some.inj H
     go_wp2_with (first | ((with_reducible refine gate_builtin (b:=.append) (xs:=#[.tmp 18,.tmp 21]) rfl ?_);at_builtin;refine Kd.R_append (Kd.int .u8) (w0:=w0) w0.heap.size rfl (.tmp 18) (.tmp 21) 27 5 (.int .u8 0) 1 rfl Try.underlying27 info5 rfl (by decide) (by omega) u0 x0_1 ((x1_1) % 256) [.int .u8 ((x1_1) % 256)] (fun k_=>(P0_ k_ ∨ w.heap.size ≤ k_)) (fun _=>False) rfl rfl ?aP (fun _ hk=>hk.elim) ?aF ?aO ?aB ?aS ?aL ?_;(case aP=>exact rfl);(case aB=>exact (by exact bZ_ HB));(case aF=>exact (fun k_ hk=>(.inr (Nat.le_trans (by first | exact HK.out.1 | exact (show Kept w _ (fun k_=>P0_ k_) from by repeat (first | (with_reducible first | exact HK.out | apply Kept.alloc | apply Kept.drewN | apply Kept.drew) | exact HK.out)).1) hk))));(case aO=>exact (by exact rZ_ HO_0));(case aS=>exact (bS_ (by exact bZ_ HB)));(case aL=>have:=LMc8.out;omega);intro v127 w9 ho hb hg hat;rw [← Ny126.out] at ho;have n0_:=aM_ (hb);have n1_:=aM_ (Kept.of_grown (S:=(fun k_=>P0_ k_)) hg (by repeat (first | (with_reducible first | exact HK.out | apply Kept.alloc | apply Kept.drewN | apply Kept.drew) | exact HK.out)) (fun k_ e_=>(HO_0.out.1 k_ e_)));have n2_:=aM_ (ho);clear HB;clear HK;clear HO_0;have HB:=n0_;have HK:=n1_;have HO128:=n2_;clear n0_ n1_ n2_;clear ho hb hg hat))
     go_ret
     exact ⟨_,by first | rfl | (simp [errW_none,errW_some] <;> rfl) | (simp [*, errW_none,errW_some] <;> rfl),by exact rZ_ HO128,by exact bZ_ HB,by repeat (first | (with_reducible first | exact HK.out | apply Kept.alloc | apply Kept.drewN | apply Kept.drew) | exact HK.out)⟩
    ·rw [if_neg c8] at H
     exact absurd H (by simp)
def impl_bytesOf.l0 : Nat → Int → Int → Option (Int)
 | 0,_,_=>none
 | k + 1,x0,x3=>if x0 > 0 then (impl_bytesOf.l0 k (x0 / 256) (wrap64 (x3 + 1))) else (some x3)
def impl_bytesOf.f (k : Nat) (a0 : Int) : Option (Int):=impl_bytesOf.l0 k a0 0
theorem impl_bytesOf.mono_l : ∀ k,(∀ y0 y1,LeO (impl_bytesOf.l0 k y0 y1) (impl_bytesOf.l0 (k + 1) y0 y1))
 | 0=>fun _ _ r h=>by simp [impl_bytesOf.l0] at h
 | k + 1=>by
  have ih0:=impl_bytesOf.mono_l k
  ·intro y0 y1
   unfold impl_bytesOf.l0
   repeat' first
   | (with_reducible exact ih0 _ _)
   | (with_reducible exact LeO.refl _)
   | (with_reducible exact LeO.none _)
   | (with_reducible refine LeO.ite ?_ ?_)
   | (with_reducible refine LeO.bind ?_ (fun _=>?_))
   | exact ih0 _ _
   | exact LeO.none _
   | refine LeO.ite ?_ ?_
   | refine LeO.bind ?_ (fun _=>?_)
theorem impl_bytesOf.mono : ∀ a0 k,LeO (impl_bytesOf.f k a0) (impl_bytesOf.f (k + 1) a0):=by
 intro a0 k
 have ih0:=impl_bytesOf.mono_l k
 unfold impl_bytesOf.f
 repeat' first
   | (with_reducible exact ih0 _ _)
   | (with_reducible exact LeO.refl _)
   | (with_reducible exact LeO.none _)
   | (with_reducible refine LeO.ite ?_ ?_)
   | (with_reducible refine LeO.bind ?_ (fun _=>?_))
   | exact ih0 _ _
   | exact LeO.none _
   | refine LeO.ite ?_ ?_
   | refine LeO.bind ?_ (fun _=>?_)
set_option maxHeartbeats 8000000 in
set_option maxRecDepth 100000 in
theorem impl_bytesOf.calls (k : Nat) (a0 : Int) (r : Int) (w : World) (h : impl_bytesOf.f k a0 = some r) :
  Calls Try.prog 150 #[.int .i64 a0] w fun e w'=>e = .returned (.int .i64 r) ∧ Drawn0 w w':=by
 have H : (impl_bytesOf.l0 k a0 0) = some r:=h
 clear h
 have H':=aM_ H
 clear H
 go_enter Try.func150,Try.ntmps150
 go_wp2
 (try simp only [Act.put,sI_,sS_,sZ_])
 go_loopg [0,3] k (fun kq v0 v3 w'=>∃ (x0_1 : Int) (x3_1 : Int),v0 = .int .i64 x0_1 ∧ v3 = .int .i64 x3_1 ∧ Aside0 (impl_bytesOf.l0 kq x0_1 x3_1 = some r) ∧ Aside0 (kq ≤ k) ∧ Drawn0 w w')
 case atStart=>exact ⟨(a0),(0),(by first | rfl | (simp;done) | (simp [*];done)),(by first | rfl | (simp;done) | (simp [*];done)),H', ⟨Nat.le_refl _⟩,by repeat (first | exact Drawn0.refl _ | apply Drawn0.step)⟩
 case round =>
  clear H'
  try clear c1
  obtain ⟨x0_1,x3_1,rfl,rfl,HA,HK1,⟨m1,rfl⟩⟩:=hrel
  cases gk with
  | zero=>exact absurd HA.out (by simp [impl_bytesOf.l0])
  | succ k1 =>
   have H:=HA.out
   clear HA
   simp only [impl_bytesOf.l0] at H
   by_cases c2 : x0_1 > 0
   ·rw [if_pos c2] at H
    have c2b0 : decide (0 < x0_1) = true:=decide_eq_true c2
    clear c2
    have H':=aM_ H
    clear H
    go_wp2
    go_roundg k1
    case measure=>have:=HK1.out;omega
    case rel=>exact ⟨(x0_1 / 256),(wrap64 (x3_1 + 1)),(by first | rfl | (simp;done) | (simp [*];done)),(by first | rfl | (simp;done) | (simp [*];done)),H', ⟨by have:=HK1.out;omega⟩,by repeat (first | exact Drawn0.refl _ | apply Drawn0.step)⟩
   ·rw [if_neg c2] at H
    have c2b0 : decide (0 < x0_1) = false:=decide_eq_false c2
    clear c2
    obtain rfl:=Option.some.inj H
    go_wp2
    go_ret
    exact ⟨by first | rfl | (simp;done) | (simp [*];done),by repeat (first | exact Drawn0.refl _ | apply Drawn0.step)⟩
def impl_addBytes.l0 : Nat → List Int → Int → Int → Int → Option (List Int)
 | 0,_,_,_,_=>none
 | k + 1,x0,x1,x3,x9=>if x9 ≥ 0 then (if 0 ≤ (wrap64 (8 * x9)) then (if x0.length < 140737488355328 then (impl_addBytes.l0 k (x0 ++ [Go.bits .xor .u8 ((shr .i64 x1 (wrap64 (8 * x9))) % 256) x3]) x1 x3 (wrap64 (x9 - 1))) else (none)) else (none)) else (some x0)
def impl_addBytes.f (k : Nat) (l0 : List Int) (a1 : Int) (a2 : Int) (a3 : Int) : Option (List Int):=impl_addBytes.l0 k l0 a1 a3 (wrap64 (a2 - 1))
theorem impl_addBytes.mono_l : ∀ k,(∀ y0 y1 y2 y3,LeO (impl_addBytes.l0 k y0 y1 y2 y3) (impl_addBytes.l0 (k + 1) y0 y1 y2 y3))
 | 0=>fun _ _ _ _ r h=>by simp [impl_addBytes.l0] at h
 | k + 1=>by
  have ih0:=impl_addBytes.mono_l k
  ·intro y0 y1 y2 y3
   unfold impl_addBytes.l0
   repeat' first
   | (with_reducible exact ih0 _ _ _ _)
   | (with_reducible exact LeO.refl _)
   | (with_reducible exact LeO.none _)
   | (with_reducible refine LeO.ite ?_ ?_)
   | (with_reducible refine LeO.bind ?_ (fun _=>?_))
   | exact ih0 _ _ _ _
   | exact LeO.none _
   | refine LeO.ite ?_ ?_
   | refine LeO.bind ?_ (fun _=>?_)
theorem impl_addBytes.mono : ∀ a0 a1 a2 a3 k,LeO (impl_addBytes.f k a0 a1 a2 a3) (impl_addBytes.f (k + 1) a0 a1 a2 a3):=by
 intro a0 a1 a2 a3 k
 have ih0:=impl_addBytes.mono_l k
 unfold impl_addBytes.f
 repeat' first
   | (with_reducible exact ih0 _ _ _ _)
   | (with_reducible exact LeO.refl _)
   | (with_reducible exact LeO.none _)
   | (with_reducible refine LeO.ite ?_ ?_)
   | (with_reducible refine LeO.bind ?_ (fun _=>?_))
   | exact ih0 _ _ _ _
   | exact LeO.none _
   | refine LeO.ite ?_ ?_
   | refine LeO.bind ?_ (fun _=>?_)
set_option maxHeartbeats 8000000 in
set_option maxRecDepth 100000 in
theorem impl_addBytes.calls (k : Nat) (P0_ : Nat → Prop) (u9000_ : Value) (l0 : List Int) (a1 : Int) (a2 : Int) (a3 : Int) (r : List Int) (w0 w : World) (hB : Below w0.heap.size w0 w) (ho0 : Kd.R (Kd.int .u8) 5 w w0.heap.size P0_ u9000_ l0) (h : impl_addBytes.f k l0 a1 a2 a3 = some r) :
  Calls Try.prog 151 #[u9000_,.int .i64 a1,.int .i64 a2,.int .u8 a3] w fun e w'=>∃ v0_ : Value,e = .returned (v0_) ∧ Kd.R (Kd.int .u8) 5 w' w0.heap.size (fun k_=>(P0_ k_ ∨ w.heap.size ≤ k_)) v0_ r ∧ Below w0.heap.size w0 w' ∧ Kept w w' (fun k_=>P0_ k_):=by
 have HO0:=aM_ (show Kd.R (Kd.int .u8) 5 w w0.heap.size (fun k_=>(P0_ k_ ∨ w.heap.size ≤ k_)) u9000_ l0 from Kd.R_mono ho0 (fun k_ hk=>(.inl hk)))
 have HK:=aM_ (Kept.refl w (fun k_=>P0_ k_))
 have HW0:=aM_ hB.size
 have HB:=aM_ hB
 clear hB
 have H : (impl_addBytes.l0 k l0 a1 a3 (wrap64 (a2 - 1))) = some r:=h
 clear h
 have H':=aM_ H
 clear H
 go_enter Try.func151,Try.ntmps151
 go_wp2
 (try simp only [Act.put,sI_,sS_,sZ_])
 go_loopg [0,9] k (fun kq v0 v9 w'=>∃ (x0_1 : List Int) (x9_1 : Int),v9 = .int .i64 x9_1 ∧ Aside0 (impl_addBytes.l0 kq x0_1 a1 a3 x9_1 = some r) ∧ Aside0 (kq ≤ k) ∧ Aside0 (Kd.R (Kd.int .u8) 5 w' w0.heap.size (fun k_=>(P0_ k_ ∨ w.heap.size ≤ k_)) v0 x0_1) ∧ Aside0 (Kept w w' (fun k_=>P0_ k_)) ∧ Aside0 (Below w0.heap.size w0 w'))
 case atStart=>exact ⟨(l0),(wrap64 (a2 - 1)),(by first | rfl | (simp;done) | (simp [*];done)),H', ⟨Nat.le_refl _⟩,⟨by exact rZ_ HO0⟩,⟨by repeat (first | (with_reducible first | exact HK.out | apply Kept.alloc | apply Kept.drewN | apply Kept.drew) | exact HK.out)⟩,⟨by exact bZ_ HB⟩⟩
 case round =>
  clear H'
  try clear c1
  try clear p2
  obtain ⟨x0_1,x9_1,rfl,HA,HK1,HO_0,HK,HB⟩:=hrel
  cases gk with
  | zero=>exact absurd HA.out (by simp [impl_addBytes.l0])
  | succ k1 =>
   have H:=HA.out
   clear HA
   simp only [impl_addBytes.l0] at H
   by_cases c5 : x9_1 ≥ 0
   ·rw [if_pos c5] at H
    have c5b0 : decide (0 ≤ x9_1) = true:=decide_eq_true c5
    clear c5
    obtain ⟨ji6,hji6⟩ : ∃ j_ : Int,(wrap64 (8 * x9_1)) = j_:=⟨_,rfl⟩
    replace H : (if 0 ≤ (ji6) then (if x0_1.length < 140737488355328 then (impl_addBytes.l0 k1 (x0_1 ++ [Go.bits .xor .u8 ((shr .i64 a1 (ji6)) % 256) a3]) a1 a3 (wrap64 (x9_1 - 1))) else (none)) else (none)) = some r:=by first | (rw [hji6] at H;exact H) | (simp only [hji6] at H ⊢;exact H)
    have hji6w : (IntKind.i64.wrap (8 * x9_1)) = ji6:=(i64_w _).trans hji6
    by_cases c7 : 0 ≤ (ji6)
    ·rw [if_pos c7] at H
     have c7b0:=eq_true c7
     have c7b1 : decide (0 ≤ (ji6)) = true:=decide_eq_true c7
     clear c7
     obtain ⟨ji8,hji8⟩ : ∃ j_ : Int,(shr .i64 a1 (ji6)) = j_:=⟨_,rfl⟩
     replace H : (if x0_1.length < 140737488355328 then (impl_addBytes.l0 k1 (x0_1 ++ [Go.bits .xor .u8 ((ji8) % 256) a3]) a1 a3 (wrap64 (x9_1 - 1))) else (none)) = some r:=by first | (rw [hji8] at H;exact H) | (simp only [hji8] at H ⊢;exact H)
     have hji8_ : (a1 / 2 ^ min (ji6).toNat 64) = ji8:=hji8
     have hji8z : (ji6) ≤ 64 → (a1 / 2 ^ (ji6).toNat) = ji8:=shr_small hji8
     by_cases c9 : x0_1.length < 140737488355328
     ·rw [if_pos c9] at H
      have LMc9:=aM_ c9
      clear c9
      obtain ⟨y129,hy129⟩ : ∃ y_ : List Int,y_ = (x0_1 ++ [Go.bits .xor .u8 ((ji8) % 256) a3]):=⟨_,rfl⟩
      replace H : (impl_addBytes.l0 k1 y129 a1 a3 (wrap64 (x9_1 - 1))) = some r:=by first | (rw [hy129];with_reducible exact H) | (have H2_:=(Option.bind_some _ _).symm.trans H;rw [hy129];with_reducible exact H2_) | (have H2_:=(Option.bind_some _ _).symm.trans H;with_reducible exact H2_) | with_reducible exact H | (rw [hy129];exact H) | exact H
      have Ny129:=aM_ hy129
      clear hy129
      have H':=aM_ H
      clear H
      go_wp2_with (first | ((with_reducible refine gate_builtin (b:=.append) (xs:=#[.tmp 16,.tmp 24]) rfl ?_);at_builtin;refine Kd.R_append (Kd.int .u8) (w0:=w0) w0.heap.size rfl (.tmp 16) (.tmp 24) 27 5 (.int .u8 0) 1 rfl Try.underlying27 info5 rfl (by decide) (by omega) u0 x0_1 (Go.bits .xor .u8 ((ji8) % 256) a3) [.int .u8 (Go.bits .xor .u8 ((ji8) % 256) a3)] (fun k_=>(P0_ k_ ∨ w.heap.size ≤ k_)) (fun _=>False) rfl rfl ?aP (fun _ hk=>hk.elim) ?aF ?aO ?aB ?aS ?aL ?_;(case aP=>exact rfl);(case aB=>exact (by exact bZ_ HB));(case aF=>exact (fun k_ hk=>(.inr (Nat.le_trans (by first | exact HK.out.1 | exact (show Kept w _ (fun k_=>P0_ k_) from by repeat (first | (with_reducible first | exact HK.out | apply Kept.alloc | apply Kept.drewN | apply Kept.drew) | exact HK.out)).1) hk))));(case aO=>exact (by exact rZ_ HO_0));(case aS=>exact (bS_ (by exact bZ_ HB)));(case aL=>have:=LMc9.out;omega);intro v130 w10 ho hb hg hat;rw [← Ny129.out] at ho;have n0_:=aM_ (hb);have n1_:=aM_ (Kept.of_grown (S:=(fun k_=>P0_ k_)) hg (by repeat (first | (with_reducible first | exact HK.out | apply Kept.alloc | apply Kept.drewN | apply Kept.drew) | exact HK.out)) (fun k_ e_=>(HO_0.out.1 k_ e_)));have n2_:=aM_ (ho);clear HB;clear HK;clear HO_0;have HB:=n0_;have HK:=n1_;have HO131:=n2_;clear n0_ n1_ n2_;clear ho hb hg hat))
      go_roundg k1
      case measure=>have:=HK1.out;omega
      case rel=>exact ⟨(y129),(wrap64 (x9_1 - 1)),(by first | rfl | (simp;done) | (simp [*];done)),H', ⟨by have:=HK1.out;omega⟩,⟨by exact rZ_ HO131⟩,⟨by repeat (first | (with_reducible first | exact HK.out | apply Kept.alloc | apply Kept.drewN | apply Kept.drew) | exact HK.out)⟩,⟨by exact bZ_ HB⟩⟩
     ·rw [if_neg c9] at H
      exact absurd H (by simp)
    ·rw [if_neg c7] at H
     exact absurd H (by simp)
   ·rw [if_neg c5] at H
    have c5b0 : decide (0 ≤ x9_1) = false:=decide_eq_false c5
    clear c5
    obtain rfl:=Option.some.inj H
    go_wp2
    go_ret
    exact ⟨_,by first | rfl | (simp [errW_none,errW_some] <;> rfl) | (simp [*, errW_none,errW_some] <;> rfl),by exact rZ_ HO_0,by exact bZ_ HB,by repeat (first | (with_reducible first | exact HK.out | apply Kept.alloc | apply Kept.drewN | apply Kept.drew) | exact HK.out)⟩
def impl_addVar.f (k : Nat) (l0 : List Int) (a1 : Int) : Option (List Int):=(impl_clamp.f a1 (-1000000000000000) 1000000000000000).bind fun t132=>(if t132 ≥ 0 then ((impl_bytesOf.f k t132).bind fun t133=>(if l0.length < 140737488355328 then ((impl_addBytes.f k (l0 ++ [(wrap64 (128 + t133)) % 256]) t132 t133 0).bind fun t137=>(some t137)) else (none))) else ((impl_bytesOf.f k (wrap64 ((-1) - t132))).bind fun t140=>(if l0.length < 140737488355328 then ((impl_addBytes.f k (l0 ++ [(wrap64 (127 - t140)) % 256]) (wrap64 ((-1) - t132)) t140 255).bind fun t144=>(some t144)) else (none))))
theorem impl_addVar.mono : ∀ a0 a1 k,LeO (impl_addVar.f k a0 a1) (impl_addVar.f (k + 1) a0 a1):=by
 intro a0 a1 k
 unfold impl_addVar.f
 repeat' first
   | (with_reducible exact impl_addBytes.mono _ _ _ _ _)
   | (with_reducible exact impl_bytesOf.mono _ _)
   | (with_reducible exact LeO.refl _)
   | (with_reducible exact LeO.none _)
   | (with_reducible refine LeO.ite ?_ ?_)
   | (with_reducible refine LeO.bind ?_ (fun _=>?_))
   | exact impl_addBytes.mono _ _ _ _ _
   | exact impl_bytesOf.mono _ _
   | exact LeO.none _
   | refine LeO.ite ?_ ?_
   | refine LeO.bind ?_ (fun _=>?_)
set_option maxHeartbeats 8000000 in
set_option maxRecDepth 100000 in
theorem impl_addVar.calls (k : Nat) (P0_ : Nat → Prop) (u9000_ : Value) (l0 : List Int) (a1 : Int) (r : List Int) (w0 w : World) (hB : Below w0.heap.size w0 w) (ho0 : Kd.R (Kd.int .u8) 5 w w0.heap.size P0_ u9000_ l0) (h : impl_addVar.f k l0 a1 = some r) :
  Calls Try.prog 100 #[u9000_,.int .i64 a1] w fun e w'=>∃ v0_ : Value,e = .returned (v0_) ∧ Kd.R (Kd.int .u8) 5 w' w0.heap.size (fun k_=>(P0_ k_ ∨ w.heap.size ≤ k_)) v0_ r ∧ Below w0.heap.size w0 w' ∧ Kept w w' (fun k_=>P0_ k_):=by
 have HO0:=aM_ (show Kd.R (Kd.int .u8) 5 w w0.heap.size (fun k_=>(P0_ k_ ∨ w.heap.size ≤ k_)) u9000_ l0 from Kd.R_mono ho0 (fun k_ hk=>(.inl hk)))
 have HK:=aM_ (Kept.refl w (fun k_=>P0_ k_))
 have HW0:=aM_ hB.size
 have HB:=aM_ hB
 clear hB
 have H : ((impl_clamp.f a1 (-1000000000000000) 1000000000000000).bind fun t132=>(if t132 ≥ 0 then ((impl_bytesOf.f k t132).bind fun t133=>(if l0.length < 140737488355328 then ((impl_addBytes.f k (l0 ++ [(wrap64 (128 + t133)) % 256]) t132 t133 0).bind fun t137=>(some t137)) else (none))) else ((impl_bytesOf.f k (wrap64 ((-1) - t132))).bind fun t140=>(if l0.length < 140737488355328 then ((impl_addBytes.f k (l0 ++ [(wrap64 (127 - t140)) % 256]) (wrap64 ((-1) - t132)) t140 255).bind fun t144=>(some t144)) else (none))))) = some r:=h
 clear h
 replace H:=oB_ H
 obtain ⟨t132,A30,H⟩:=H
 replace H : (if t132 ≥ 0 then ((impl_bytesOf.f k t132).bind fun t133=>(if l0.length < 140737488355328 then ((impl_addBytes.f k (l0 ++ [(wrap64 (128 + t133)) % 256]) t132 t133 0).bind fun t137=>(some t137)) else (none))) else ((impl_bytesOf.f k (wrap64 ((-1) - t132))).bind fun t140=>(if l0.length < 140737488355328 then ((impl_addBytes.f k (l0 ++ [(wrap64 (127 - t140)) % 256]) (wrap64 ((-1) - t132)) t140 255).bind fun t144=>(some t144)) else (none)))) = some r:=H
 have A3:=aM_ A30
 clear A30
 by_cases c4 : t132 ≥ 0
 ·rw [if_pos c4] at H
  have c4b0 : decide (0 ≤ t132) = true:=decide_eq_true c4
  clear c4
  replace H:=oB_ H
  obtain ⟨t133,A50,H⟩:=H
  replace H : (if l0.length < 140737488355328 then ((impl_addBytes.f k (l0 ++ [(wrap64 (128 + t133)) % 256]) t132 t133 0).bind fun t137=>(some t137)) else (none)) = some r:=H
  have A5:=aM_ A50
  clear A50
  by_cases c6 : l0.length < 140737488355328
  ·rw [if_pos c6] at H
   have LMc6:=aM_ c6
   clear c6
   obtain ⟨y134,hy134⟩ : ∃ y_ : List Int,y_ = (l0 ++ [(wrap64 (128 + t133)) % 256]):=⟨_,rfl⟩
   replace H : ((impl_addBytes.f k y134 t132 t133 0).bind fun t137=>(some t137)) = some r:=by first | (rw [hy134];with_reducible exact H) | (have H2_:=(Option.bind_some _ _).symm.trans H;rw [hy134];with_reducible exact H2_) | (have H2_:=(Option.bind_some _ _).symm.trans H;with_reducible exact H2_) | with_reducible exact H | (rw [hy134];exact H) | exact H
   have Ny134:=aM_ hy134
   clear hy134
   replace H:=oB_ H
   obtain ⟨t137,A70,H⟩:=H
   replace H : (some t137) = some r:=H
   have A7:=aM_ A70
   clear A70
   obtain rfl:=Option.some.inj H
   go_enter Try.func100,Try.ntmps100
   go_wp2_with (first | ((with_reducible refine gate_callee (f:=149) rfl ?_);refine goesL_ (some 8) rfl rfl Try.func149 (by kernel_rfl) rfl #[.int .i64 a1,.int .i64 (-1000000000000000),.int .i64 1000000000000000] rfl (by (try simp only [mA_,mC_,mN_]);first | done | rfl | (simp only [lD_,lT_];rfl)) ?_;(with_reducible refine (impl_clamp.calls a1 (-1000000000000000) 1000000000000000 t132 _ A3.out).mono ?_);rintro e w8 ⟨rfl,hb⟩;refine ⟨_,rfl,?_⟩;have n0_:=aM_ (Kd.R_below (by exact rZ_ HO0) hb);have n1_:=aM_ (Kept.below (S:=(fun k_=>P0_ k_)) (by repeat (first | (with_reducible first | exact HK.out | apply Kept.alloc | apply Kept.drewN | apply Kept.drew) | exact HK.out)) hb);have n2_:=aM_ (bT_ (by exact bZ_ HB) hb);clear HO0;clear HK;clear HB;have HO0:=n0_;have HK:=n1_;have HB:=n2_;clear n0_ n1_ n2_;(try clear hb);(try clear hb2);(try clear hk);(try clear hi)) | ((with_reducible refine gate_callee (f:=150) rfl ?_);refine goesL_ (some 12) rfl rfl Try.func150 (by kernel_rfl) rfl #[.int .i64 t132] rfl (by (try simp only [mA_,mC_,mN_]);first | done | rfl | (simp only [lD_,lT_];rfl)) ?_;(with_reducible refine (impl_bytesOf.calls k t132 t133 _ A5.out).mono ?_);rintro e w' ⟨rfl,⟨nd,rfl⟩⟩;refine ⟨_,rfl,?_⟩) | ((with_reducible refine gate_builtin (b:=.append) (xs:=#[.tmp 13,.tmp 17]) rfl ?_);at_builtin;refine Kd.R_append (Kd.int .u8) (w0:=w0) w0.heap.size rfl (.tmp 13) (.tmp 17) 27 5 (.int .u8 0) 1 rfl Try.underlying27 info5 rfl (by decide) (by omega) u9000_ l0 ((wrap64 (128 + t133)) % 256) [.int .u8 ((wrap64 (128 + t133)) % 256)] (fun k_=>(P0_ k_ ∨ w.heap.size ≤ k_)) (fun _=>False) rfl rfl ?aP (fun _ hk=>hk.elim) ?aF ?aO ?aB ?aS ?aL ?_;(case aP=>exact rfl);(case aB=>exact (by exact bZ_ HB));(case aF=>exact (fun k_ hk=>(.inr (Nat.le_trans (by first | exact HK.out.1 | exact (show Kept w _ (fun k_=>P0_ k_) from by repeat (first | (with_reducible first | exact HK.out | apply Kept.alloc | apply Kept.drewN | apply Kept.drew) | exact HK.out)).1) hk))));(case aO=>exact (by exact rZ_ HO0));(case aS=>exact (bS_ (by exact bZ_ HB)));(case aL=>have:=LMc6.out;omega);intro v135 w9 ho hb hg hat;rw [← Ny134.out] at ho;have n0_:=aM_ (hb);have n1_:=aM_ (Kept.of_grown (S:=(fun k_=>P0_ k_)) hg (by repeat (first | (with_reducible first | exact HK.out | apply Kept.alloc | apply Kept.drewN | apply Kept.drew) | exact HK.out)) (fun k_ e_=>(HO0.out.1 k_ e_)));have n2_:=aM_ (ho);clear HB;clear HK;clear HO0;have HB:=n0_;have HK:=n1_;have HO136:=n2_;clear n0_ n1_ n2_;clear ho hb hg hat;obtain ⟨Ao10,co10,eo10⟩:=Kd.R_slice HO136.out;subst eo10) | ((with_reducible refine gate_callee (f:=151) rfl ?_);refine goesL_ (some 21) rfl rfl Try.func151 (by kernel_rfl) rfl #[.slice Ao10 y134.length co10,.int .i64 t132,.int .i64 t133,.int .u8 0] rfl (by (try simp only [mA_,mC_,mN_]);first | done | rfl | (simp only [lD_,lT_];rfl)) ?_;(with_reducible refine (impl_addBytes.calls k (fun k_=>some k_ = (.slice Ao10 y134.length co10 : Value).ownBlock) (.slice Ao10 y134.length co10) y134 t132 t133 0 t137 w0 _ ?side1 ?side2 A7.out).mono ?_);(case side1=>exact bZ_ HB);(case side2=>exact Kd.R_tight rfl HO136.out);rintro e w11 ⟨v138,rfl,ho0,hb,hkp⟩;refine ⟨_,rfl,?_⟩;have n0_:=aM_ (Kd.R_mono (ok':=fun k_=>(P0_ k_ ∨ w.heap.size ≤ k_)) ho0 (fun k_ hk_=>Or.elim hk_ (fun hs_=>(HO136.out.1 k_ (hs_).symm)) (fun hn_=>(.inr (Nat.le_trans (by first | exact HK.out.1 | exact (show Kept w _ (fun k_=>P0_ k_) from by repeat (first | (with_reducible first | exact HK.out | apply Kept.alloc | apply Kept.drewN | apply Kept.drew) | exact HK.out)).1) hn_)))));have n1_:=aM_ (Kept.then_ (S:=(fun k_=>P0_ k_)) (by repeat (first | (with_reducible first | exact HK.out | apply Kept.alloc | apply Kept.drewN | apply Kept.drew) | exact HK.out)) hkp (fun k_ hs_=>(fun e_=>(HO136.out.1 k_ e_.symm)) hs_));have n2_:=aM_ (hb);clear HK;clear HB;clear HO136;have HO139:=n0_;have HK:=n1_;have HB:=n2_;clear n0_ n1_ n2_;(try clear hb);(try clear hkp);(try clear ho0)))
   go_ret
   exact ⟨_,by first | rfl | (simp [errW_none,errW_some] <;> rfl) | (simp [*, errW_none,errW_some] <;> rfl),by exact rZ_ HO139,by exact bZ_ HB,by repeat (first | (with_reducible first | exact HK.out | apply Kept.alloc | apply Kept.drewN | apply Kept.drew) | exact HK.out)⟩
  ·rw [if_neg c6] at H
   exact absurd H (by simp)
 ·rw [if_neg c4] at H
  have c4b0 : decide (0 ≤ t132) = false:=decide_eq_false c4
  clear c4
  replace H:=oB_ H
  obtain ⟨t140,A120,H⟩:=H
  replace H : (if l0.length < 140737488355328 then ((impl_addBytes.f k (l0 ++ [(wrap64 (127 - t140)) % 256]) (wrap64 ((-1) - t132)) t140 255).bind fun t144=>(some t144)) else (none)) = some r:=H
  have A12:=aM_ A120
  clear A120
  by_cases c13 : l0.length < 140737488355328
  ·rw [if_pos c13] at H
   have LMc13:=aM_ c13
   clear c13
   obtain ⟨y141,hy141⟩ : ∃ y_ : List Int,y_ = (l0 ++ [(wrap64 (127 - t140)) % 256]):=⟨_,rfl⟩
   replace H : ((impl_addBytes.f k y141 (wrap64 ((-1) - t132)) t140 255).bind fun t144=>(some t144)) = some r:=by first | (rw [hy141];with_reducible exact H) | (have H2_:=(Option.bind_some _ _).symm.trans H;rw [hy141];with_reducible exact H2_) | (have H2_:=(Option.bind_some _ _).symm.trans H;with_reducible exact H2_) | with_reducible exact H | (rw [hy141];exact H) | exact H
   have Ny141:=aM_ hy141
   clear hy141
   replace H:=oB_ H
   obtain ⟨t144,A140,H⟩:=H
   replace H : (some t144) = some r:=H
   have A14:=aM_ A140
   clear A140
   obtain rfl:=Option.some.inj H
   go_enter Try.func100,Try.ntmps100
   go_wp2_with (first | ((with_reducible refine gate_callee (f:=149) rfl ?_);refine goesL_ (some 8) rfl rfl Try.func149 (by kernel_rfl) rfl #[.int .i64 a1,.int .i64 (-1000000000000000),.int .i64 1000000000000000] rfl (by (try simp only [mA_,mC_,mN_]);first | done | rfl | (simp only [lD_,lT_];rfl)) ?_;(with_reducible refine (impl_clamp.calls a1 (-1000000000000000) 1000000000000000 t132 _ A3.out).mono ?_);rintro e w15 ⟨rfl,hb⟩;refine ⟨_,rfl,?_⟩;have n0_:=aM_ (Kd.R_below (by exact rZ_ HO0) hb);have n1_:=aM_ (Kept.below (S:=(fun k_=>P0_ k_)) (by repeat (first | (with_reducible first | exact HK.out | apply Kept.alloc | apply Kept.drewN | apply Kept.drew) | exact HK.out)) hb);have n2_:=aM_ (bT_ (by exact bZ_ HB) hb);clear HO0;clear HK;clear HB;have HO0:=n0_;have HK:=n1_;have HB:=n2_;clear n0_ n1_ n2_;(try clear hb);(try clear hb2);(try clear hk);(try clear hi)) | ((with_reducible refine gate_callee (f:=150) rfl ?_);refine goesL_ (some 24) rfl rfl Try.func150 (by kernel_rfl) rfl #[.int .i64 (wrap64 ((-1) - t132))] rfl (by (try simp only [mA_,mC_,mN_]);first | done | rfl | (simp only [lD_,lT_];rfl)) ?_;(with_reducible refine (impl_bytesOf.calls k (wrap64 ((-1) - t132)) t140 _ A12.out).mono ?_);rintro e w' ⟨rfl,⟨nd,rfl⟩⟩;refine ⟨_,rfl,?_⟩) | ((with_reducible refine gate_builtin (b:=.append) (xs:=#[.tmp 25,.tmp 29]) rfl ?_);at_builtin;refine Kd.R_append (Kd.int .u8) (w0:=w0) w0.heap.size rfl (.tmp 25) (.tmp 29) 27 5 (.int .u8 0) 1 rfl Try.underlying27 info5 rfl (by decide) (by omega) u9000_ l0 ((wrap64 (127 - t140)) % 256) [.int .u8 ((wrap64 (127 - t140)) % 256)] (fun k_=>(P0_ k_ ∨ w.heap.size ≤ k_)) (fun _=>False) rfl rfl ?aP (fun _ hk=>hk.elim) ?aF ?aO ?aB ?aS ?aL ?_;(case aP=>exact rfl);(case aB=>exact (by exact bZ_ HB));(case aF=>exact (fun k_ hk=>(.inr (Nat.le_trans (by first | exact HK.out.1 | exact (show Kept w _ (fun k_=>P0_ k_) from by repeat (first | (with_reducible first | exact HK.out | apply Kept.alloc | apply Kept.drewN | apply Kept.drew) | exact HK.out)).1) hk))));(case aO=>exact (by exact rZ_ HO0));(case aS=>exact (bS_ (by exact bZ_ HB)));(case aL=>have:=LMc13.out;omega);intro v142 w16 ho hb hg hat;rw [← Ny141.out] at ho;have n0_:=aM_ (hb);have n1_:=aM_ (Kept.of_grown (S:=(fun k_=>P0_ k_)) hg (by repeat (first | (with_reducible first | exact HK.out | apply Kept.alloc | apply Kept.drewN | apply Kept.drew) | exact HK.out)) (fun k_ e_=>(HO0.out.1 k_ e_)));have n2_:=aM_ (ho);clear HB;clear HK;clear HO0;have HB:=n0_;have HK:=n1_;have HO143:=n2_;clear n0_ n1_ n2_;clear ho hb hg hat;obtain ⟨Ao17,co17,eo17⟩:=Kd.R_slice HO143.out;subst eo17) | ((with_reducible refine gate_callee (f:=151) rfl ?_);refine goesL_ (some 34) rfl rfl Try.func151 (by kernel_rfl) rfl #[.slice Ao17 y141.length co17,.int .i64 (wrap64 ((-1) - t132)),.int .i64 t140,.int .u8 255] rfl (by (try simp only [mA_,mC_,mN_]);first | done | rfl | (simp only [lD_,lT_];rfl)) ?_;(with_reducible refine (impl_addBytes.calls k (fun k_=>some k_ = (.slice Ao17 y141.length co17 : Value).ownBlock) (.slice Ao17 y141.length co17) y141 (wrap64 ((-1) - t132)) t140 255 t144 w0 _ ?side1 ?side2 A14.out).mono ?_);(case side1=>exact bZ_ HB);(case side2=>exact Kd.R_tight rfl HO143.out);rintro e w18 ⟨v145,rfl,ho0,hb,hkp⟩;refine ⟨_,rfl,?_⟩;have n0_:=aM_ (Kd.R_mono (ok':=fun k_=>(P0_ k_ ∨ w.heap.size ≤ k_)) ho0 (fun k_ hk_=>Or.elim hk_ (fun hs_=>(HO143.out.1 k_ (hs_).symm)) (fun hn_=>(.inr (Nat.le_trans (by first | exact HK.out.1 | exact (show Kept w _ (fun k_=>P0_ k_) from by repeat (first | (with_reducible first | exact HK.out | apply Kept.alloc | apply Kept.drewN | apply Kept.drew) | exact HK.out)).1) hn_)))));have n1_:=aM_ (Kept.then_ (S:=(fun k_=>P0_ k_)) (by repeat (first | (with_reducible first | exact HK.out | apply Kept.alloc | apply Kept.drewN | apply Kept.drew) | exact HK.out)) hkp (fun k_ hs_=>(fun e_=>(HO143.out.1 k_ e_.symm)) hs_));have n2_:=aM_ (hb);clear HK;clear HB;clear HO143;have HO146:=n0_;have HK:=n1_;have HB:=n2_;clear n0_ n1_ n2_;(try clear hb);(try clear hkp);(try clear ho0)))
   go_ret
   exact ⟨_,by first | rfl | (simp [errW_none,errW_some] <;> rfl) | (simp [*, errW_none,errW_some] <;> rfl),by exact rZ_ HO146,by exact bZ_ HB,by repeat (first | (with_reducible first | exact HK.out | apply Kept.alloc | apply Kept.drewN | apply Kept.drew) | exact HK.out)⟩
  ·rw [if_neg c13] at H
   exact absurd H (by simp)
def impl_addText.f (k : Nat) (l0 : List Int) (a1 : ByteArray) : Option (List Int):=(impl_addU.f k l0 (a1.size : Int)).bind fun t147=>(if t147.length + a1.size < 140737488355328 then (some (t147 ++ bytesOf a1)) else (none))
theorem impl_addText.mono : ∀ a0 a1 k,LeO (impl_addText.f k a0 a1) (impl_addText.f (k + 1) a0 a1):=by
 intro a0 a1 k
 unfold impl_addText.f
 repeat' first
   | (with_reducible exact impl_addU.mono _ _ _)
   | (with_reducible exact LeO.refl _)
   | (with_reducible exact LeO.none _)
   | (with_reducible refine LeO.ite ?_ ?_)
   | (with_reducible refine LeO.bind ?_ (fun _=>?_))
   | exact impl_addU.mono _ _ _
   | exact LeO.none _
   | refine LeO.ite ?_ ?_
   | refine LeO.bind ?_ (fun _=>?_)
set_option maxHeartbeats 8000000 in
set_option maxRecDepth 100000 in
theorem impl_addText.calls (k : Nat) (P0_ : Nat → Prop) (u9000_ : Value) (l0 : List Int) (a1 : ByteArray) (r : List Int) (w0 w : World) (hB : Below w0.heap.size w0 w) (ho0 : Kd.R (Kd.int .u8) 5 w w0.heap.size P0_ u9000_ l0) (h : impl_addText.f k l0 a1 = some r) :
  Calls Try.prog 101 #[u9000_,.string a1] w fun e w'=>∃ v0_ : Value,e = .returned (v0_) ∧ Kd.R (Kd.int .u8) 5 w' w0.heap.size (fun k_=>(P0_ k_ ∨ w.heap.size ≤ k_)) v0_ r ∧ Below w0.heap.size w0 w' ∧ Kept w w' (fun k_=>P0_ k_):=by
 have HO0:=aM_ (show Kd.R (Kd.int .u8) 5 w w0.heap.size (fun k_=>(P0_ k_ ∨ w.heap.size ≤ k_)) u9000_ l0 from Kd.R_mono ho0 (fun k_ hk=>(.inl hk)))
 have HK:=aM_ (Kept.refl w (fun k_=>P0_ k_))
 have HW0:=aM_ hB.size
 have HB:=aM_ hB
 clear hB
 have H : ((impl_addU.f k l0 (a1.size : Int)).bind fun t147=>(if t147.length + a1.size < 140737488355328 then (some (t147 ++ bytesOf a1)) else (none))) = some r:=h
 clear h
 replace H:=oB_ H
 obtain ⟨t147,A30,H⟩:=H
 replace H : (if t147.length + a1.size < 140737488355328 then (some (t147 ++ bytesOf a1)) else (none)) = some r:=H
 have A3:=aM_ A30
 clear A30
 by_cases c4 : t147.length + a1.size < 140737488355328
 ·rw [if_pos c4] at H
  have LMc4:=aM_ c4
  clear c4
  obtain ⟨y150,hy150⟩ : ∃ y_ : List Int,y_ = (t147 ++ bytesOf a1):=⟨_,rfl⟩
  replace H : (some y150) = some r:=by first | (rw [hy150];with_reducible exact H) | (have H2_:=(Option.bind_some _ _).symm.trans H;rw [hy150];with_reducible exact H2_) | (have H2_:=(Option.bind_some _ _).symm.trans H;with_reducible exact H2_) | with_reducible exact H | (rw [hy150];exact H) | exact H
  have Ny150:=aM_ hy150
  clear hy150
  obtain rfl:=Option.some.inj H
  obtain ⟨Ao5,co5,eo5⟩:=Kd.R_slice HO0.out
  subst eo5
  go_enter Try.func101,Try.ntmps101
  go_wp2_with (first | ((with_reducible refine gate_callee (f:=99) rfl ?_);refine goesL_ (some 8) rfl rfl Try.func99 (by kernel_rfl) rfl #[.slice Ao5 l0.length co5,.int .i64 (a1.size : Int)] rfl (by (try simp only [mA_,mC_,mN_]);first | done | rfl | (simp only [lD_,lT_];rfl)) ?_;(with_reducible refine (impl_addU.calls k (fun k_=>some k_ = (.slice Ao5 l0.length co5 : Value).ownBlock) (.slice Ao5 l0.length co5) l0 (a1.size : Int) t147 w0 _ ?side1 ?side2 A3.out).mono ?_);(case side1=>exact bZ_ HB);(case side2=>exact Kd.R_tight rfl HO0.out);rintro e w6 ⟨v148,rfl,ho0,hb,hkp⟩;refine ⟨_,rfl,?_⟩;have n0_:=aM_ (Kd.R_mono (ok':=fun k_=>(P0_ k_ ∨ w.heap.size ≤ k_)) ho0 (fun k_ hk_=>Or.elim hk_ (fun hs_=>(HO0.out.1 k_ (hs_).symm)) (fun hn_=>(.inr (Nat.le_trans (by first | exact HK.out.1 | exact (show Kept w _ (fun k_=>P0_ k_) from by repeat (first | (with_reducible first | exact HK.out | apply Kept.alloc | apply Kept.drewN | apply Kept.drew) | exact HK.out)).1) hn_)))));have n1_:=aM_ (Kept.then_ (S:=(fun k_=>P0_ k_)) (by repeat (first | (with_reducible first | exact HK.out | apply Kept.alloc | apply Kept.drewN | apply Kept.drew) | exact HK.out)) hkp (fun k_ hs_=>(fun e_=>(HO0.out.1 k_ e_.symm)) hs_));have n2_:=aM_ (hb);clear HK;clear HB;clear HO0;have HO149:=n0_;have HK:=n1_;have HB:=n2_;clear n0_ n1_ n2_;(try clear hb);(try clear hkp);(try clear ho0)) | (at_builtin;refine append_str (w0:=w0) w0.heap.size rfl (.tmp 8) _ 27 9 5 rfl Try.underlying27 Try.underlying9 info5 v148 t147 a1 (fun k_=>(P0_ k_ ∨ w.heap.size ≤ k_)) rfl rfl ?aO ?aF ?aB ?aS ?aL ?_;(case aB=>exact (by exact bZ_ HB));(case aF=>exact (fun k_ hk=>(.inr (Nat.le_trans (by first | exact HK.out.1 | exact (show Kept w _ (fun k_=>P0_ k_) from by repeat (first | (with_reducible first | exact HK.out | apply Kept.alloc | apply Kept.drewN | apply Kept.drew) | exact HK.out)).1) hk))));(case aO=>exact (by exact rZ_ HO149));(case aS=>exact (bS_ (by exact bZ_ HB)));(case aL=>have:=LMc4.out;omega);intro v151 w7 ho hb hg hat;rw [← Ny150.out] at ho;have n0_:=aM_ (hb);have n1_:=aM_ (Kept.of_grown (S:=(fun k_=>P0_ k_)) hg (by repeat (first | (with_reducible first | exact HK.out | apply Kept.alloc | apply Kept.drewN | apply Kept.drew) | exact HK.out)) (fun k_ e_=>(HO149.out.1 k_ e_)));have n2_:=aM_ (ho);clear HB;clear HK;clear HO149;have HB:=n0_;have HK:=n1_;have HO152:=n2_;clear n0_ n1_ n2_;clear ho hb hg hat))
  go_ret
  exact ⟨_,by first | rfl | (simp [errW_none,errW_some] <;> rfl) | (simp [*, errW_none,errW_some] <;> rfl),by exact rZ_ HO152,by exact bZ_ HB,by repeat (first | (with_reducible first | exact HK.out | apply Kept.alloc | apply Kept.drewN | apply Kept.drew) | exact HK.out)⟩
 ·rw [if_neg c4] at H
  exact absurd H (by simp)
end Go.Proofs.Ytllgmgpfdnofmaa.PFnRowsRead
