import Derived.Test.YtipehkeabnfngaaDoorZDSPFnExactDefsTextx0
import Derived.Test.YtipehkeabnfngaaDoorZDSPFnExactDefsTextx4
namespace Go.Proofs.YtipehkeabnfngaaDoor.PFnExactDefsText
open Go.RowKit Go.Proofs.YtipehkeabnfngaaDoorW.PrintWords Go.Proofs.YtipehkeabnfngaaDoorW.PrintLast Go.Proofs.YtipehkeabnfngaaDoorW.PrintMore Go.Proofs.YtipehkeabnfngaaDoor.Xtra
attribute [local go_sem] max2_int min2_int max_two min_two max_three min_three max_four min_four str_leq str_gtr str_geq setCell_drewN cell_set2 cell_set3   -- for this text's walks alone
set_option linter.unusedVariables false
set_option linter.unusedSimpArgs false
def laws_eqDefS.l0 : Nat → List (S35) → List (S35) → Int → Option (Bool)
 | 0,_,_,_=>none
 | k + 1,x0,x1,x5=>if x5 < (x0.length : Int) then (if 0 ≤ x5 then (if x5 < (x1.length : Int) then ((laws_eqDef.f k ((rd_T35 x0 x5).f0) ((rd_T35 x0 x5).f1) ((rd_T35 x0 x5).f2) ((rd_T35 x0 x5).f3) ((rd_T35 x1 x5).f0) ((rd_T35 x1 x5).f1) ((rd_T35 x1 x5).f2) ((rd_T35 x1 x5).f3)).bind fun t201=>(if t201 = true then (laws_eqDefS.l0 k x0 x1 (wrap64 (x5 + 1))) else (some false))) else (none)) else (none)) else (some true)
def laws_eqDefS.f (k : Nat) (l0 : List (S35)) (l1 : List (S35)) : Option (Bool):=if (l0.length : Int) = (l1.length : Int) then (laws_eqDefS.l0 k l0 l1 0) else (some false)
theorem laws_eqDefS.mono_l : ∀ k,(∀ y0 y1 y2,LeO (laws_eqDefS.l0 k y0 y1 y2) (laws_eqDefS.l0 (k + 1) y0 y1 y2))
 | 0=>fun _ _ _ r h=>by simp [laws_eqDefS.l0] at h
 | k + 1=>by
  have ih0:=laws_eqDefS.mono_l k
  ·intro y0 y1 y2
   unfold laws_eqDefS.l0
   repeat' first
   | (with_reducible exact ih0 _ _ _)
   | (with_reducible exact laws_eqDef.mono _ _ _ _ _ _ _ _ _)
   | (with_reducible exact LeO.refl _)
   | (with_reducible exact LeO.none _)
   | (with_reducible refine LeO.ite ?_ ?_)
   | (with_reducible refine LeO.bind ?_ (fun _=>?_))
   | exact ih0 _ _ _
   | exact laws_eqDef.mono _ _ _ _ _ _ _ _ _
   | exact LeO.none _
   | refine LeO.ite ?_ ?_
   | refine LeO.bind ?_ (fun _=>?_)
theorem laws_eqDefS.mono : ∀ a0 a1 k,LeO (laws_eqDefS.f k a0 a1) (laws_eqDefS.f (k + 1) a0 a1):=by
 intro a0 a1 k
 have ih0:=laws_eqDefS.mono_l k
 unfold laws_eqDefS.f
 repeat' first
   | (with_reducible exact ih0 _ _ _)
   | (with_reducible exact laws_eqDef.mono _ _ _ _ _ _ _ _ _)
   | (with_reducible exact LeO.refl _)
   | (with_reducible exact LeO.none _)
   | (with_reducible refine LeO.ite ?_ ?_)
   | (with_reducible refine LeO.bind ?_ (fun _=>?_))
   | exact ih0 _ _ _
   | exact laws_eqDef.mono _ _ _ _ _ _ _ _ _
   | exact LeO.none _
   | refine LeO.ite ?_ ?_
   | refine LeO.bind ?_ (fun _=>?_)
def laws_eqDefS.T6 : Bool × List (List Nat × List Nat):=(true,[([],[]),([],[]),([0,1],[0,1]),([2],[2]),([],[]),([],[]),([4,5],[4,5]),([6],[6]),([3,7],[3,7]),([8],[8])])
def laws_eqDefS.B6 : List Nat:=[0,0,3,7,0,0,48,112,255,511]
theorem laws_eqDefS.tab6 : rtab .any (opsOf Tryd.f18 6) = laws_eqDefS.T6:=by kernel_rfl
theorem laws_eqDefS.bits6 : waitsOk laws_eqDefS.T6.2 laws_eqDefS.B6 = true:=by kernel_rfl
set_option maxHeartbeats 8000000 in
set_option maxRecDepth 100000 in
theorem laws_eqDefS.calls (k : Nat) (A0 : Option Addr) (c0 : Nat) (l0 : List (S35)) (A1 : Option Addr) (c1 : Nat) (l1 : List (S35)) (r : Bool) (w : World) (hr0 : Kd.C k35 w A0 l0.length l0) (hc0 : l0.length ≤ c0) (hr1 : Kd.C k35 w A1 l1.length l1) (hc1 : l1.length ≤ c1) (h : laws_eqDefS.f k l0 l1 = some r) :
  Calls Tryd.prog 18 #[.slice A0 l0.length c0,.slice A1 l1.length c1] w fun e w'=>e = .returned (.bool r) ∧ Below w.heap.size w w':=by
 have hu35:=Tryd.underlying35
 have HR0:=aM_ hr0
 have HC0:=aM_ hc0
 clear hr0 hc0
 have HR1:=aM_ hr1
 have HC1:=aM_ hc1
 clear hr1 hc1
 have HB:=aM_ (Below.refl w.heap.size w)
 have H : (if (l0.length : Int) = (l1.length : Int) then (laws_eqDefS.l0 k l0 l1 0) else (some false)) = some r:=h
 clear h
 by_cases c3 : (l0.length : Int) = (l1.length : Int)
 ·rw [if_pos c3] at H
  have c3b0 : ((l0.length : Int) == (l1.length : Int)) = true:=beq_iff_eq.mpr c3
  have c3b1 : ((l0.length : Int) != (l1.length : Int)) = false:=bne_eq_false_iff_eq.mpr c3
  have c3b2 : (l0.length == l1.length) = true:=by first | simpa using c3 | (simp at c3 ⊢;omega)
  clear c3
  have H':=aM_ H
  clear H
  go_enter Tryd.func18,Tryd.ntmps18
  go_wp2
  (try simp only [Act.put,sI_,sS_,sZ_])
  go_loopg [5] k (fun kq v5 w'=>∃ (x5_1 : Int),v5 = .int .i64 x5_1 ∧ Aside0 (laws_eqDefS.l0 kq l0 l1 x5_1 = some r) ∧ Aside0 (kq ≤ k) ∧ Aside0 (Below w.heap.size w w'))
  case atStart=>exact ⟨(0),(by first | rfl | (simp;done) | (simp [*];done)),H', ⟨Nat.le_refl _⟩,⟨by exact bZ_ HB⟩⟩
  case round =>
   clear H'
   clear c3b0 c3b1 c3b2
   obtain ⟨x5_1,rfl,HA,HK1,HB⟩:=hrel
   cases gk with
   | zero=>exact absurd HA.out (by simp [laws_eqDefS.l0])
   | succ k1 =>
    have H:=HA.out
    clear HA
    simp only [laws_eqDefS.l0] at H
    by_cases c4 : x5_1 < (l0.length : Int)
    ·rw [if_pos c4] at H
     have c4b0 : decide (x5_1 < (l0.length : Int)) = true:=decide_eq_true c4
     clear c4
     by_cases c5 : 0 ≤ x5_1
     ·rw [if_pos c5] at H
      have c5b0 : decide (0 ≤ x5_1) = true:=decide_eq_true c5
      clear c5
      by_cases c6 : x5_1 < (l1.length : Int)
      ·rw [if_pos c6] at H
       have c6b0 : decide (x5_1 < (l1.length : Int)) = true:=decide_eq_true c6
       clear c6
       replace H:=oB_ H
       obtain ⟨t201,A70,H⟩:=H
       replace H : (if t201 = true then (laws_eqDefS.l0 k1 l0 l1 (wrap64 (x5_1 + 1))) else (some false)) = some r:=H
       have A7:=aM_ A70
       clear A70
       by_cases c8 : t201 = true
       ·subst c8
        have H1 : (laws_eqDefS.l0 k1 l0 l1 (wrap64 (x5_1 + 1))) = some r:=by rw [if_pos rfl] at H;exact H
        clear H
        have H:=H1
        clear H1
        have H':=aM_ H
        clear H
        try go_wp2
        have n0_:=aM_ (bD_ HB.out)
        clear HB
        have HB:=n0_
        clear n0_
        have p199 : 0 ≤ (x5_1 : Int):=oT_ (by first | (with_reducible assumption) | assumption)
        have q199 : x5_1 < (l0.length : Int):=oT_ (by first | (with_reducible assumption) | assumption)
        obtain ⟨ad199,A199_1,c199_1,A199_2,c199_2,A199_3,c199_3,e199,hx199_0,hx199_1,hx199_2,hx199_3,hl199_1,hi199_1,hl199_2,hi199_2,hl199_3,hi199_3⟩:=at_T35 HR0.out x5_1 p199 q199
        have hw199_3:=hx199_3
        have hw199_2:=hx199_2
        have hw199_1:=hx199_1
        have hw199_0:=hx199_0
        cases e199
        replace hx199_0:=(HB.out.cell (wL_ w _ hx199_0)).trans hx199_0
        replace hx199_1:=(HB.out.cell (wL_ w _ hx199_1)).trans hx199_1
        replace hx199_2:=(HB.out.cell (wL_ w _ hx199_2)).trans hx199_2
        replace hx199_3:=(HB.out.cell (wL_ w _ hx199_3)).trans hx199_3
        have HR199_1:=aM_ hi199_1
        have HC199_1:=aM_ hl199_1
        clear hi199_1 hl199_1
        have HR199_2:=aM_ hi199_2
        have HC199_2:=aM_ hl199_2
        clear hi199_2 hl199_2
        have HR199_3:=aM_ hi199_3
        have HC199_3:=aM_ hl199_3
        clear hi199_3 hl199_3
        replace p199:=eq_true p199
        replace q199:=eq_true q199
        have p200 : 0 ≤ (x5_1 : Int):=oT_ (by first | (with_reducible assumption) | assumption)
        have q200 : x5_1 < (l1.length : Int):=oT_ (by first | (with_reducible assumption) | assumption)
        obtain ⟨ad200,A200_1,c200_1,A200_2,c200_2,A200_3,c200_3,e200,hx200_0,hx200_1,hx200_2,hx200_3,hl200_1,hi200_1,hl200_2,hi200_2,hl200_3,hi200_3⟩:=at_T35 HR1.out x5_1 p200 q200
        have hw200_3:=hx200_3
        have hw200_2:=hx200_2
        have hw200_1:=hx200_1
        have hw200_0:=hx200_0
        cases e200
        replace hx200_0:=(HB.out.cell (wL_ w _ hx200_0)).trans hx200_0
        replace hx200_1:=(HB.out.cell (wL_ w _ hx200_1)).trans hx200_1
        replace hx200_2:=(HB.out.cell (wL_ w _ hx200_2)).trans hx200_2
        replace hx200_3:=(HB.out.cell (wL_ w _ hx200_3)).trans hx200_3
        have HR200_1:=aM_ hi200_1
        have HC200_1:=aM_ hl200_1
        clear hi200_1 hl200_1
        have HR200_2:=aM_ hi200_2
        have HC200_2:=aM_ hl200_2
        clear hi200_2 hl200_2
        have HR200_3:=aM_ hi200_3
        have HC200_3:=aM_ hl200_3
        clear hi200_3 hl200_3
        replace p200:=eq_true p200
        replace q200:=eq_true q200
        refine start_ (n:=10) (S:=fun w'=>w'.cell? (ad199.add ((x5_1).toNat * 4)) = some (.string ((rd_T35 l0 x5_1).f0)) ∧ w'.cell? ⟨(ad199.add ((x5_1).toNat * 4)).block,(ad199.add ((x5_1).toNat * 4)).off + 1,none⟩ = some (.slice A199_1 ((rd_T35 l0 x5_1).f1).length c199_1) ∧ w'.cell? ⟨(ad199.add ((x5_1).toNat * 4)).block,(ad199.add ((x5_1).toNat * 4)).off + 2,none⟩ = some (.slice A199_2 ((rd_T35 l0 x5_1).f2).length c199_2) ∧ w'.cell? ⟨(ad199.add ((x5_1).toNat * 4)).block,(ad199.add ((x5_1).toNat * 4)).off + 3,none⟩ = some (.slice A199_3 ((rd_T35 l0 x5_1).f3).length c199_3) ∧ w'.cell? (ad200.add ((x5_1).toNat * 4)) = some (.string ((rd_T35 l1 x5_1).f0)) ∧ w'.cell? ⟨(ad200.add ((x5_1).toNat * 4)).block,(ad200.add ((x5_1).toNat * 4)).off + 1,none⟩ = some (.slice A200_1 ((rd_T35 l1 x5_1).f1).length c200_1) ∧ w'.cell? ⟨(ad200.add ((x5_1).toNat * 4)).block,(ad200.add ((x5_1).toNat * 4)).off + 2,none⟩ = some (.slice A200_2 ((rd_T35 l1 x5_1).f2).length c200_2) ∧ w'.cell? ⟨(ad200.add ((x5_1).toNat * 4)).block,(ad200.add ((x5_1).toNat * 4)).off + 3,none⟩ = some (.slice A200_3 ((rd_T35 l1 x5_1).f3).length c200_3)) (ds:=[]) (tb_ 0 10) (by kernel_rfl) rfl rfl ⟨((HB.out.cell (wL_ w _ hw199_0)).trans hw199_0),((HB.out.cell (wL_ w _ hw199_1)).trans hw199_1),((HB.out.cell (wL_ w _ hw199_2)).trans hw199_2),((HB.out.cell (wL_ w _ hw199_3)).trans hw199_3),((HB.out.cell (wL_ w _ hw200_0)).trans hw200_0),((HB.out.cell (wL_ w _ hw200_1)).trans hw200_1),((HB.out.cell (wL_ w _ hw200_2)).trans hw200_2),((HB.out.cell (wL_ w _ hw200_3)).trans hw200_3)⟩ (fun hHeld=>?_);refine with_tabW laws_eqDefS.tab6 laws_eqDefS.bits6 (fun HT_ HW_=>?_)
        generalize wr.drew = w9 at HB HR199_1 HR199_2 HR199_3 HR200_1 HR200_2 HR200_3 hx199_0 hx199_1 hx199_2 hx199_3 hx200_0 hx200_1 hx200_2 hx200_3 hHeld ⊢
        refine pure_ (i:=0) (N:=some 17) (v:=?_) (a':=?_) (tb_ 1 9) rfl rfl (any_of HT_.out (by kernel_rfl)) (fun _ _ _ h=>h) (Or.inl ⟨by rfl,?_⟩) ?_ ?_
        rotate_left
        ·intro w'
         go_simp
         with_reducible rfl
        rotate_left
        ·simp only [Act.put,sI_,sZ_,sS_,i64_w,i32_w]
         rfl
        refine pure_ (i:=1) (N:=some 18) (v:=?_) (a':=?_) (tb_ 2 8) rfl rfl (any_of HT_.out (by kernel_rfl)) (fun _ _ _ h=>h) (Or.inl ⟨by rfl,?_⟩) ?_ ?_
        rotate_left
        ·intro w'
         go_simp
         with_reducible rfl
        rotate_left
        ·simp only [Act.put,sI_,sZ_,sS_,i64_w,i32_w]
         rfl
        refine pure_ (i:=2) (N:=some 19) (v:=?_) (a':=?_) (tb_ 3 7) rfl rfl (any_of HT_.out (by kernel_rfl)) (fun _ _ _ h=>h) (Or.inl ⟨by rfl,?_⟩) ?_ ?_
        rotate_left
        ·intro w'
         go_simp
         with_reducible rfl
        rotate_left
        ·simp only [Act.put,sI_,sZ_,sS_,i64_w,i32_w]
         rfl
        refine pure_ (i:=4) (N:=some 21) (v:=?_) (a':=?_) #[true,true,true,false,true,false,false,false,false,false] rfl rfl (any_of HT_.out (by kernel_rfl)) (fun _ _ _ h=>h) (Or.inl ⟨by rfl,?_⟩) ?_ ?_
        rotate_left
        ·intro w'
         go_simp
         with_reducible rfl
        rotate_left
        ·simp only [Act.put,sI_,sZ_,sS_,i64_w,i32_w]
         rfl
        refine pure_ (i:=5) (N:=some 22) (v:=?_) (a':=?_) #[true,true,true,false,true,true,false,false,false,false] rfl rfl (any_of HT_.out (by kernel_rfl)) (fun _ _ _ h=>h) (Or.inl ⟨by rfl,?_⟩) ?_ ?_
        rotate_left
        ·intro w'
         go_simp
         with_reducible rfl
        rotate_left
        ·simp only [Act.put,sI_,sZ_,sS_,i64_w,i32_w]
         rfl
        refine pure_ (i:=6) (N:=some 23) (v:=?_) (a':=?_) #[true,true,true,false,true,true,true,false,false,false] rfl rfl (any_of HT_.out (by kernel_rfl)) (fun _ _ _ h=>h) (Or.inl ⟨by rfl,?_⟩) ?_ ?_
        rotate_left
        ·intro w'
         go_simp
         with_reducible rfl
        rotate_left
        ·simp only [Act.put,sI_,sZ_,sS_,i64_w,i32_w]
         rfl
        refine take_ (i:=3) (N:=some 20) (v:=?_) (a':=?_) (tb_ 7 3) rfl rfl (take_ofW HT_.out HW_.out (by kernel_rfl)) (fun _ _ _ h=>h) (Or.inl ⟨by rfl,?_⟩) hHeld ?_ ?_
        rotate_left
        ·rintro w' ⟨s0,s1,s2,s3,s4,s5,s6,s7⟩
         go_simp
         with_reducible rfl
        rotate_left
        ·simp only [Act.put,sI_,sZ_,sS_,i64_w,i32_w]
         rfl
        refine take_ (i:=7) (N:=some 24) (v:=?_) (a':=?_) (tb_ 8 2) rfl rfl (take_ofW HT_.out HW_.out (by kernel_rfl)) (fun _ _ _ h=>h) (Or.inl ⟨by rfl,?_⟩) hHeld ?_ ?_
        rotate_left
        ·rintro w' ⟨s0,s1,s2,s3,s4,s5,s6,s7⟩
         go_simp
         with_reducible rfl
        rotate_left
        ·simp only [Act.put,sI_,sZ_,sS_,i64_w,i32_w]
         rfl
        refine one_ (i:=8) (N:=some 25) (tb_ 9 1) rfl rfl (one_of HT_.out (by kernel_rfl)) (by decide) (fun K hK=>?_)
        refine goes_ Tryd.func30 (by kernel_rfl) rfl #[.agg #[.string ((rd_T35 l0 x5_1).f0),.slice A199_1 ((rd_T35 l0 x5_1).f1).length c199_1,.slice A199_2 ((rd_T35 l0 x5_1).f2).length c199_2,.slice A199_3 ((rd_T35 l0 x5_1).f3).length c199_3],.agg #[.string ((rd_T35 l1 x5_1).f0),.slice A200_1 ((rd_T35 l1 x5_1).f1).length c200_1,.slice A200_2 ((rd_T35 l1 x5_1).f2).length c200_2,.slice A200_3 ((rd_T35 l1 x5_1).f3).length c200_3]] (by rfl) rfl rfl (by (try simp only [mA_,mC_,mN_]);first | done | rfl | (simp only [lD_,lT_];rfl)) ?_
        with_reducible refine (laws_eqDef.calls k1 ((rd_T35 l0 x5_1).f0) _ _ ((rd_T35 l0 x5_1).f1) _ _ ((rd_T35 l0 x5_1).f2) _ _ ((rd_T35 l0 x5_1).f3) ((rd_T35 l1 x5_1).f0) _ _ ((rd_T35 l1 x5_1).f1) _ _ ((rd_T35 l1 x5_1).f2) _ _ ((rd_T35 l1 x5_1).f3) true _ ?side1 ?side2 ?side3 ?side4 ?side5 ?side6 ?side7 ?side8 ?side9 ?side10 ?side11 ?side12 A7.out).mono ?_
        (case side1=>exact cZ_ HR199_1 HB)
        (case side2=>exact HC199_1.out)
        (case side3=>exact cZ_ HR199_2 HB)
        (case side4=>exact HC199_2.out)
        (case side5=>exact cZ_ HR199_3 HB)
        (case side6=>exact HC199_3.out)
        (case side7=>exact cZ_ HR200_1 HB)
        (case side8=>exact HC200_1.out)
        (case side9=>exact cZ_ HR200_2 HB)
        (case side10=>exact HC200_2.out)
        (case side11=>exact cZ_ HR200_3 HB)
        (case side12=>exact HC200_3.out)
        rintro e w10 ⟨rfl,hb⟩
        refine ⟨_,rfl,?_⟩
        have n0_:=aM_ (bT_ (by exact bZ_ HB) hb)
        clear HB
        have HB:=n0_
        clear n0_ hb
        skip
        skip
        skip
        refine hK.out _ _ ⟨((HB.out.cell (wL_ w _ hw199_0)).trans hw199_0),((HB.out.cell (wL_ w _ hw199_1)).trans hw199_1),((HB.out.cell (wL_ w _ hw199_2)).trans hw199_2),((HB.out.cell (wL_ w _ hw199_3)).trans hw199_3),((HB.out.cell (wL_ w _ hw200_0)).trans hw200_0),((HB.out.cell (wL_ w _ hw200_1)).trans hw200_1),((HB.out.cell (wL_ w _ hw200_2)).trans hw200_2),((HB.out.cell (wL_ w _ hw200_3)).trans hw200_3)⟩ (fun hHeld=>?_)
        clear hK K
        refine norm_ (a':=?_) ?_ ?_
        rotate_left
        ·show Act.put _ (some 25) _ = _
         simp only [Act.put,sI_,sZ_,sS_,i64_w,i32_w]
         rfl
        refine pure_ (i:=9) (N:=some 26) (v:=?_) (a':=?_) (tb_ 10 0) rfl rfl (any_of HT_.out (by kernel_rfl)) (fun _ _ _ h=>h) (Or.inl ⟨by rfl,?_⟩) ?_ ?_
        rotate_left
        ·intro w'
         go_simp
         with_reducible rfl
        rotate_left
        ·simp only [Act.put,sI_,sZ_,sS_,i64_w,i32_w]
         rfl
        refine done_ (done_of HT_.out (by kernel_rfl)) ?_
        try go_wp2
        go_roundg k1
        case measure=>have:=HK1.out;omega
        case rel=>exact ⟨(wrap64 (x5_1 + 1)),(by first | rfl | (simp;done) | (simp [*];done)),H', ⟨by have:=HK1.out;omega⟩,⟨by exact bZ_ HB⟩⟩
       ·replace c8:=Bool.eq_false_iff.mpr c8
        subst c8
        have H1 : (some false) = some r:=by rw [if_neg (show ¬ (false = true) by decide)] at H;exact H
        clear H
        have H:=H1
        clear H1
        obtain rfl:=Option.some.inj H
        try go_wp2
        have n0_:=aM_ (bD_ HB.out)
        clear HB
        have HB:=n0_
        clear n0_
        have p199 : 0 ≤ (x5_1 : Int):=oT_ (by first | (with_reducible assumption) | assumption)
        have q199 : x5_1 < (l0.length : Int):=oT_ (by first | (with_reducible assumption) | assumption)
        obtain ⟨ad199,A199_1,c199_1,A199_2,c199_2,A199_3,c199_3,e199,hx199_0,hx199_1,hx199_2,hx199_3,hl199_1,hi199_1,hl199_2,hi199_2,hl199_3,hi199_3⟩:=at_T35 HR0.out x5_1 p199 q199
        have hw199_3:=hx199_3
        have hw199_2:=hx199_2
        have hw199_1:=hx199_1
        have hw199_0:=hx199_0
        cases e199
        replace hx199_0:=(HB.out.cell (wL_ w _ hx199_0)).trans hx199_0
        replace hx199_1:=(HB.out.cell (wL_ w _ hx199_1)).trans hx199_1
        replace hx199_2:=(HB.out.cell (wL_ w _ hx199_2)).trans hx199_2
        replace hx199_3:=(HB.out.cell (wL_ w _ hx199_3)).trans hx199_3
        have HR199_1:=aM_ hi199_1
        have HC199_1:=aM_ hl199_1
        clear hi199_1 hl199_1
        have HR199_2:=aM_ hi199_2
        have HC199_2:=aM_ hl199_2
        clear hi199_2 hl199_2
        have HR199_3:=aM_ hi199_3
        have HC199_3:=aM_ hl199_3
        clear hi199_3 hl199_3
        replace p199:=eq_true p199
        replace q199:=eq_true q199
        have p200 : 0 ≤ (x5_1 : Int):=oT_ (by first | (with_reducible assumption) | assumption)
        have q200 : x5_1 < (l1.length : Int):=oT_ (by first | (with_reducible assumption) | assumption)
        obtain ⟨ad200,A200_1,c200_1,A200_2,c200_2,A200_3,c200_3,e200,hx200_0,hx200_1,hx200_2,hx200_3,hl200_1,hi200_1,hl200_2,hi200_2,hl200_3,hi200_3⟩:=at_T35 HR1.out x5_1 p200 q200
        have hw200_3:=hx200_3
        have hw200_2:=hx200_2
        have hw200_1:=hx200_1
        have hw200_0:=hx200_0
        cases e200
        replace hx200_0:=(HB.out.cell (wL_ w _ hx200_0)).trans hx200_0
        replace hx200_1:=(HB.out.cell (wL_ w _ hx200_1)).trans hx200_1
        replace hx200_2:=(HB.out.cell (wL_ w _ hx200_2)).trans hx200_2
        replace hx200_3:=(HB.out.cell (wL_ w _ hx200_3)).trans hx200_3
        have HR200_1:=aM_ hi200_1
        have HC200_1:=aM_ hl200_1
        clear hi200_1 hl200_1
        have HR200_2:=aM_ hi200_2
        have HC200_2:=aM_ hl200_2
        clear hi200_2 hl200_2
        have HR200_3:=aM_ hi200_3
        have HC200_3:=aM_ hl200_3
        clear hi200_3 hl200_3
        replace p200:=eq_true p200
        replace q200:=eq_true q200
        refine start_ (n:=10) (S:=fun w'=>w'.cell? (ad199.add ((x5_1).toNat * 4)) = some (.string ((rd_T35 l0 x5_1).f0)) ∧ w'.cell? ⟨(ad199.add ((x5_1).toNat * 4)).block,(ad199.add ((x5_1).toNat * 4)).off + 1,none⟩ = some (.slice A199_1 ((rd_T35 l0 x5_1).f1).length c199_1) ∧ w'.cell? ⟨(ad199.add ((x5_1).toNat * 4)).block,(ad199.add ((x5_1).toNat * 4)).off + 2,none⟩ = some (.slice A199_2 ((rd_T35 l0 x5_1).f2).length c199_2) ∧ w'.cell? ⟨(ad199.add ((x5_1).toNat * 4)).block,(ad199.add ((x5_1).toNat * 4)).off + 3,none⟩ = some (.slice A199_3 ((rd_T35 l0 x5_1).f3).length c199_3) ∧ w'.cell? (ad200.add ((x5_1).toNat * 4)) = some (.string ((rd_T35 l1 x5_1).f0)) ∧ w'.cell? ⟨(ad200.add ((x5_1).toNat * 4)).block,(ad200.add ((x5_1).toNat * 4)).off + 1,none⟩ = some (.slice A200_1 ((rd_T35 l1 x5_1).f1).length c200_1) ∧ w'.cell? ⟨(ad200.add ((x5_1).toNat * 4)).block,(ad200.add ((x5_1).toNat * 4)).off + 2,none⟩ = some (.slice A200_2 ((rd_T35 l1 x5_1).f2).length c200_2) ∧ w'.cell? ⟨(ad200.add ((x5_1).toNat * 4)).block,(ad200.add ((x5_1).toNat * 4)).off + 3,none⟩ = some (.slice A200_3 ((rd_T35 l1 x5_1).f3).length c200_3)) (ds:=[]) (tb_ 0 10) (by kernel_rfl) rfl rfl ⟨((HB.out.cell (wL_ w _ hw199_0)).trans hw199_0),((HB.out.cell (wL_ w _ hw199_1)).trans hw199_1),((HB.out.cell (wL_ w _ hw199_2)).trans hw199_2),((HB.out.cell (wL_ w _ hw199_3)).trans hw199_3),((HB.out.cell (wL_ w _ hw200_0)).trans hw200_0),((HB.out.cell (wL_ w _ hw200_1)).trans hw200_1),((HB.out.cell (wL_ w _ hw200_2)).trans hw200_2),((HB.out.cell (wL_ w _ hw200_3)).trans hw200_3)⟩ (fun hHeld=>?_);refine with_tabW laws_eqDefS.tab6 laws_eqDefS.bits6 (fun HT_ HW_=>?_)
        generalize wr.drew = w11 at HB HR199_1 HR199_2 HR199_3 HR200_1 HR200_2 HR200_3 hx199_0 hx199_1 hx199_2 hx199_3 hx200_0 hx200_1 hx200_2 hx200_3 hHeld ⊢
        refine pure_ (i:=0) (N:=some 17) (v:=?_) (a':=?_) (tb_ 1 9) rfl rfl (any_of HT_.out (by kernel_rfl)) (fun _ _ _ h=>h) (Or.inl ⟨by rfl,?_⟩) ?_ ?_
        rotate_left
        ·intro w'
         go_simp
         with_reducible rfl
        rotate_left
        ·simp only [Act.put,sI_,sZ_,sS_,i64_w,i32_w]
         rfl
        refine pure_ (i:=1) (N:=some 18) (v:=?_) (a':=?_) (tb_ 2 8) rfl rfl (any_of HT_.out (by kernel_rfl)) (fun _ _ _ h=>h) (Or.inl ⟨by rfl,?_⟩) ?_ ?_
        rotate_left
        ·intro w'
         go_simp
         with_reducible rfl
        rotate_left
        ·simp only [Act.put,sI_,sZ_,sS_,i64_w,i32_w]
         rfl
        refine pure_ (i:=2) (N:=some 19) (v:=?_) (a':=?_) (tb_ 3 7) rfl rfl (any_of HT_.out (by kernel_rfl)) (fun _ _ _ h=>h) (Or.inl ⟨by rfl,?_⟩) ?_ ?_
        rotate_left
        ·intro w'
         go_simp
         with_reducible rfl
        rotate_left
        ·simp only [Act.put,sI_,sZ_,sS_,i64_w,i32_w]
         rfl
        refine pure_ (i:=4) (N:=some 21) (v:=?_) (a':=?_) #[true,true,true,false,true,false,false,false,false,false] rfl rfl (any_of HT_.out (by kernel_rfl)) (fun _ _ _ h=>h) (Or.inl ⟨by rfl,?_⟩) ?_ ?_
        rotate_left
        ·intro w'
         go_simp
         with_reducible rfl
        rotate_left
        ·simp only [Act.put,sI_,sZ_,sS_,i64_w,i32_w]
         rfl
        refine pure_ (i:=5) (N:=some 22) (v:=?_) (a':=?_) #[true,true,true,false,true,true,false,false,false,false] rfl rfl (any_of HT_.out (by kernel_rfl)) (fun _ _ _ h=>h) (Or.inl ⟨by rfl,?_⟩) ?_ ?_
        rotate_left
        ·intro w'
         go_simp
         with_reducible rfl
        rotate_left
        ·simp only [Act.put,sI_,sZ_,sS_,i64_w,i32_w]
         rfl
        refine pure_ (i:=6) (N:=some 23) (v:=?_) (a':=?_) #[true,true,true,false,true,true,true,false,false,false] rfl rfl (any_of HT_.out (by kernel_rfl)) (fun _ _ _ h=>h) (Or.inl ⟨by rfl,?_⟩) ?_ ?_
        rotate_left
        ·intro w'
         go_simp
         with_reducible rfl
        rotate_left
        ·simp only [Act.put,sI_,sZ_,sS_,i64_w,i32_w]
         rfl
        refine take_ (i:=3) (N:=some 20) (v:=?_) (a':=?_) (tb_ 7 3) rfl rfl (take_ofW HT_.out HW_.out (by kernel_rfl)) (fun _ _ _ h=>h) (Or.inl ⟨by rfl,?_⟩) hHeld ?_ ?_
        rotate_left
        ·rintro w' ⟨s0,s1,s2,s3,s4,s5,s6,s7⟩
         go_simp
         with_reducible rfl
        rotate_left
        ·simp only [Act.put,sI_,sZ_,sS_,i64_w,i32_w]
         rfl
        refine take_ (i:=7) (N:=some 24) (v:=?_) (a':=?_) (tb_ 8 2) rfl rfl (take_ofW HT_.out HW_.out (by kernel_rfl)) (fun _ _ _ h=>h) (Or.inl ⟨by rfl,?_⟩) hHeld ?_ ?_
        rotate_left
        ·rintro w' ⟨s0,s1,s2,s3,s4,s5,s6,s7⟩
         go_simp
         with_reducible rfl
        rotate_left
        ·simp only [Act.put,sI_,sZ_,sS_,i64_w,i32_w]
         rfl
        refine one_ (i:=8) (N:=some 25) (tb_ 9 1) rfl rfl (one_of HT_.out (by kernel_rfl)) (by decide) (fun K hK=>?_)
        refine goes_ Tryd.func30 (by kernel_rfl) rfl #[.agg #[.string ((rd_T35 l0 x5_1).f0),.slice A199_1 ((rd_T35 l0 x5_1).f1).length c199_1,.slice A199_2 ((rd_T35 l0 x5_1).f2).length c199_2,.slice A199_3 ((rd_T35 l0 x5_1).f3).length c199_3],.agg #[.string ((rd_T35 l1 x5_1).f0),.slice A200_1 ((rd_T35 l1 x5_1).f1).length c200_1,.slice A200_2 ((rd_T35 l1 x5_1).f2).length c200_2,.slice A200_3 ((rd_T35 l1 x5_1).f3).length c200_3]] (by rfl) rfl rfl (by (try simp only [mA_,mC_,mN_]);first | done | rfl | (simp only [lD_,lT_];rfl)) ?_
        with_reducible refine (laws_eqDef.calls k1 ((rd_T35 l0 x5_1).f0) _ _ ((rd_T35 l0 x5_1).f1) _ _ ((rd_T35 l0 x5_1).f2) _ _ ((rd_T35 l0 x5_1).f3) ((rd_T35 l1 x5_1).f0) _ _ ((rd_T35 l1 x5_1).f1) _ _ ((rd_T35 l1 x5_1).f2) _ _ ((rd_T35 l1 x5_1).f3) false _ ?side1 ?side2 ?side3 ?side4 ?side5 ?side6 ?side7 ?side8 ?side9 ?side10 ?side11 ?side12 A7.out).mono ?_
        (case side1=>exact cZ_ HR199_1 HB)
        (case side2=>exact HC199_1.out)
        (case side3=>exact cZ_ HR199_2 HB)
        (case side4=>exact HC199_2.out)
        (case side5=>exact cZ_ HR199_3 HB)
        (case side6=>exact HC199_3.out)
        (case side7=>exact cZ_ HR200_1 HB)
        (case side8=>exact HC200_1.out)
        (case side9=>exact cZ_ HR200_2 HB)
        (case side10=>exact HC200_2.out)
        (case side11=>exact cZ_ HR200_3 HB)
        (case side12=>exact HC200_3.out)
        rintro e w12 ⟨rfl,hb⟩
        refine ⟨_,rfl,?_⟩
        have n0_:=aM_ (bT_ (by exact bZ_ HB) hb)
        clear HB
        have HB:=n0_
        clear n0_ hb
        skip
        skip
        skip
        refine hK.out _ _ ⟨((HB.out.cell (wL_ w _ hw199_0)).trans hw199_0),((HB.out.cell (wL_ w _ hw199_1)).trans hw199_1),((HB.out.cell (wL_ w _ hw199_2)).trans hw199_2),((HB.out.cell (wL_ w _ hw199_3)).trans hw199_3),((HB.out.cell (wL_ w _ hw200_0)).trans hw200_0),((HB.out.cell (wL_ w _ hw200_1)).trans hw200_1),((HB.out.cell (wL_ w _ hw200_2)).trans hw200_2),((HB.out.cell (wL_ w _ hw200_3)).trans hw200_3)⟩ (fun hHeld=>?_)
        clear hK K
        refine norm_ (a':=?_) ?_ ?_
        rotate_left
        ·show Act.put _ (some 25) _ = _
         simp only [Act.put,sI_,sZ_,sS_,i64_w,i32_w]
         rfl
        refine pure_ (i:=9) (N:=some 26) (v:=?_) (a':=?_) (tb_ 10 0) rfl rfl (any_of HT_.out (by kernel_rfl)) (fun _ _ _ h=>h) (Or.inl ⟨by rfl,?_⟩) ?_ ?_
        rotate_left
        ·intro w'
         go_simp
         with_reducible rfl
        rotate_left
        ·simp only [Act.put,sI_,sZ_,sS_,i64_w,i32_w]
         rfl
        refine done_ (done_of HT_.out (by kernel_rfl)) ?_
        try go_wp2
        go_ret
        exact ⟨by first | rfl | (simp [errW_none,errW_some] <;> rfl) | (simp [*, errW_none,errW_some] <;> rfl),by exact bZ_ HB⟩
      ·rw [if_neg c6] at H
       exact absurd H (by simp)
     ·rw [if_neg c5] at H
      exact absurd H (by simp)
    ·rw [if_neg c4] at H
     have c4b0 : decide (x5_1 < (l0.length : Int)) = false:=decide_eq_false c4
     clear c4
     obtain rfl:=Option.some.inj H
     go_wp2
     go_ret
     exact ⟨by first | rfl | (simp [errW_none,errW_some] <;> rfl) | (simp [*, errW_none,errW_some] <;> rfl),by exact bZ_ HB⟩
 ·rw [if_neg c3] at H
  have c3b0 : ((l0.length : Int) == (l1.length : Int)) = false:=beq_eq_false_iff_ne.mpr c3
  have c3b1 : ((l0.length : Int) != (l1.length : Int)) = true:=bne_iff_ne.mpr c3
  have c3b2 : (l0.length == l1.length) = false:=by first | simpa using c3 | (simp at c3 ⊢;omega)
  obtain rfl:=Option.some.inj H
  go_enter Tryd.func18,Tryd.ntmps18
  go_wp2
  go_ret
  exact ⟨by first | rfl | (simp [errW_none,errW_some] <;> rfl) | (simp [*, errW_none,errW_some] <;> rfl),by exact bZ_ HB⟩
def spec_l1In.f (a0 : Int) (a1 : Int) (a2 : Int) : Option (Bool):=if a0 ≥ a1 then (some (decide (a0 ≤ a2))) else (some false)
set_option maxHeartbeats 8000000 in
set_option maxRecDepth 100000 in
theorem spec_l1In.calls (a0 : Int) (a1 : Int) (a2 : Int) (r : Bool) (w : World) (h : spec_l1In.f a0 a1 a2 = some r) :
  Calls Tryd.prog 101 #[.int .i64 a0,.int .i64 a1,.int .i64 a2] w fun e w'=>e = .returned (.bool r) ∧ Drawn0 w w':=by
 have H : (if a0 ≥ a1 then (some (decide (a0 ≤ a2))) else (some false)) = some r:=h
 clear h
 by_cases c4 : a0 ≥ a1
 ·rw [if_pos c4] at H
  have c4b0 : decide (a1 ≤ a0) = true:=decide_eq_true c4
  clear c4
  obtain rfl:=Option.some.inj H
  go_enter Tryd.func101,Tryd.ntmps101
  go_wp2
  go_ret
  exact ⟨by first | rfl | (simp;done) | (simp [*];done),by repeat (first | exact Drawn0.refl _ | apply Drawn0.step)⟩
 ·rw [if_neg c4] at H
  have c4b0 : decide (a1 ≤ a0) = false:=decide_eq_false c4
  clear c4
  obtain rfl:=Option.some.inj H
  go_enter Tryd.func101,Tryd.ntmps101
  go_wp2
  go_ret
  exact ⟨by first | rfl | (simp;done) | (simp [*];done),by repeat (first | exact Drawn0.refl _ | apply Drawn0.step)⟩
def spec_l8Small.f (a0 : Int) : Option (Bool):=(spec_l1In.f (wrap64 (a0)) 97 122).bind fun t202=>(some t202)
set_option maxHeartbeats 8000000 in
set_option maxRecDepth 100000 in
theorem spec_l8Small.calls (a0 : Int) (r : Bool) (w : World) (h : spec_l8Small.f a0 = some r) :
  Calls Tryd.prog 125 #[.int .u8 a0] w fun e w'=>e = .returned (.bool r) ∧ Drawn0 w w':=by
 have H : ((spec_l1In.f (wrap64 (a0)) 97 122).bind fun t202=>(some t202)) = some r:=h
 clear h
 replace H:=oB_ H
 obtain ⟨t202,A20,H⟩:=H
 replace H : (some t202) = some r:=H
 have A2:=aM_ A20
 clear A20
 obtain rfl:=Option.some.inj H
 go_enter Tryd.func125,Tryd.ntmps125
 go_wp2_with (first | ((with_reducible refine gate_callee (f:=101) rfl ?_);refine goesL_ (some 5) rfl rfl Tryd.func101 (by kernel_rfl) rfl #[.int .i64 (wrap64 (a0)),.int .i64 97,.int .i64 122] rfl (by (try simp only [mA_,mC_,mN_]);first | done | rfl | (simp only [lD_,lT_];rfl)) ?_;(with_reducible refine (spec_l1In.calls (wrap64 (a0)) 97 122 t202 _ A2.out).mono ?_);rintro e w' ⟨rfl,⟨nd,rfl⟩⟩;refine ⟨_,rfl,?_⟩))
 go_ret
 exact ⟨by first | rfl | (simp;done) | (simp [*];done),by repeat (first | exact Drawn0.refl _ | apply Drawn0.step)⟩
def spec_l2Digit.f (a0 : Int) : Option (Bool):=(spec_l1In.f (wrap64 (a0)) 48 57).bind fun t203=>(some t203)
set_option maxHeartbeats 8000000 in
set_option maxRecDepth 100000 in
theorem spec_l2Digit.calls (a0 : Int) (r : Bool) (w : World) (h : spec_l2Digit.f a0 = some r) :
  Calls Tryd.prog 126 #[.int .u8 a0] w fun e w'=>e = .returned (.bool r) ∧ Drawn0 w w':=by
 have H : ((spec_l1In.f (wrap64 (a0)) 48 57).bind fun t203=>(some t203)) = some r:=h
 clear h
 replace H:=oB_ H
 obtain ⟨t203,A20,H⟩:=H
 replace H : (some t203) = some r:=H
 have A2:=aM_ A20
 clear A20
 obtain rfl:=Option.some.inj H
 go_enter Tryd.func126,Tryd.ntmps126
 go_wp2_with (first | ((with_reducible refine gate_callee (f:=101) rfl ?_);refine goesL_ (some 5) rfl rfl Tryd.func101 (by kernel_rfl) rfl #[.int .i64 (wrap64 (a0)),.int .i64 48,.int .i64 57] rfl (by (try simp only [mA_,mC_,mN_]);first | done | rfl | (simp only [lD_,lT_];rfl)) ?_;(with_reducible refine (spec_l1In.calls (wrap64 (a0)) 48 57 t203 _ A2.out).mono ?_);rintro e w' ⟨rfl,⟨nd,rfl⟩⟩;refine ⟨_,rfl,?_⟩))
 go_ret
 exact ⟨by first | rfl | (simp;done) | (simp [*];done),by repeat (first | exact Drawn0.refl _ | apply Drawn0.step)⟩
def spec_l8Name.l0 : Nat → ByteArray → Int → Option (Bool)
 | 0,_,_=>none
 | k + 1,x0,x3=>if x3 < (x0.size : Int) then (if 0 ≤ x3 then ((spec_l8Small.f (bt x0 x3)).bind fun t205=>(if t205 = true then (spec_l8Name.l0 k x0 (wrap64 (x3 + 1))) else (if x3 = 0 then (some false) else ((spec_l2Digit.f (bt x0 x3)).bind fun t206=>(if t206 = true then (spec_l8Name.l0 k x0 (wrap64 (x3 + 1))) else (some false)))))) else (none)) else ((spec_l1In.f (x0.size : Int) 1 8).bind fun t204=>(some t204))
def spec_l8Name.f (k : Nat) (a0 : ByteArray) : Option (Bool):=spec_l8Name.l0 k a0 0
theorem spec_l8Name.mono_l : ∀ k,(∀ y0 y1,LeO (spec_l8Name.l0 k y0 y1) (spec_l8Name.l0 (k + 1) y0 y1))
 | 0=>fun _ _ r h=>by simp [spec_l8Name.l0] at h
 | k + 1=>by
  have ih0:=spec_l8Name.mono_l k
  ·intro y0 y1
   unfold spec_l8Name.l0
   repeat' first
   | (with_reducible exact ih0 _ _)
   | (with_reducible exact LeO.refl _)
   | (with_reducible exact LeO.none _)
   | (with_reducible refine LeO.ite ?_ ?_)
   | (with_reducible refine LeO.bind ?_ (fun _=>?_))
   | exact ih0 _ _
   | exact LeO.none _
   | refine LeO.ite ?_ ?_
   | refine LeO.bind ?_ (fun _=>?_)
theorem spec_l8Name.mono : ∀ a0 k,LeO (spec_l8Name.f k a0) (spec_l8Name.f (k + 1) a0):=by
 intro a0 k
 have ih0:=spec_l8Name.mono_l k
 unfold spec_l8Name.f
 repeat' first
   | (with_reducible exact ih0 _ _)
   | (with_reducible exact LeO.refl _)
   | (with_reducible exact LeO.none _)
   | (with_reducible refine LeO.ite ?_ ?_)
   | (with_reducible refine LeO.bind ?_ (fun _=>?_))
   | exact ih0 _ _
   | exact LeO.none _
   | refine LeO.ite ?_ ?_
   | refine LeO.bind ?_ (fun _=>?_)
set_option maxHeartbeats 8000000 in
set_option maxRecDepth 100000 in
theorem spec_l8Name.calls (k : Nat) (a0 : ByteArray) (r : Bool) (w : World) (h : spec_l8Name.f k a0 = some r) :
  Calls Tryd.prog 137 #[.string a0] w fun e w'=>e = .returned (.bool r) ∧ Drawn0 w w':=by
 have H : (spec_l8Name.l0 k a0 0) = some r:=h
 clear h
 have H':=aM_ H
 clear H
 go_enter Tryd.func137,Tryd.ntmps137
 go_wp2
 (try simp only [Act.put,sI_,sS_,sZ_])
 go_loopg [3] k (fun kq v3 w'=>∃ (x3_1 : Int),v3 = .int .i64 x3_1 ∧ Aside0 (spec_l8Name.l0 kq a0 x3_1 = some r) ∧ Aside0 (kq ≤ k) ∧ Drawn0 w w')
 case atStart=>exact ⟨(0),(by first | rfl | (simp;done) | (simp [*];done)),H', ⟨Nat.le_refl _⟩,by repeat (first | exact Drawn0.refl _ | apply Drawn0.step)⟩
 case round =>
  clear H'
  obtain ⟨x3_1,rfl,HA,HK1,⟨m1,rfl⟩⟩:=hrel
  cases gk with
  | zero=>exact absurd HA.out (by simp [spec_l8Name.l0])
  | succ k1 =>
   have H:=HA.out
   clear HA
   simp only [spec_l8Name.l0] at H
   by_cases c2 : x3_1 < (a0.size : Int)
   ·rw [if_pos c2] at H
    have c2b0 : decide (x3_1 < (a0.size : Int)) = true:=decide_eq_true c2
    clear c2
    by_cases c3 : 0 ≤ x3_1
    ·rw [if_pos c3] at H
     have c3b0 : decide (0 ≤ x3_1) = true:=decide_eq_true c3
     clear c3
     replace H:=oB_ H
     obtain ⟨t205,A50,H⟩:=H
     replace H : (if t205 = true then (spec_l8Name.l0 k1 a0 (wrap64 (x3_1 + 1))) else (if x3_1 = 0 then (some false) else ((spec_l2Digit.f (bt a0 x3_1)).bind fun t206=>(if t206 = true then (spec_l8Name.l0 k1 a0 (wrap64 (x3_1 + 1))) else (some false))))) = some r:=H
     have A5:=aM_ A50
     clear A50
     by_cases c6 : t205 = true
     ·subst c6
      have H1 : (spec_l8Name.l0 k1 a0 (wrap64 (x3_1 + 1))) = some r:=by rw [if_pos rfl] at H;exact H
      clear H
      have H:=H1
      clear H1
      have H':=aM_ H
      clear H
      have p4 : 0 ≤ (x3_1 : Int):=oT_ (by first | (with_reducible assumption) | assumption)
      have q4 : x3_1 < (a0.size : Int):=oT_ (by first | (with_reducible assumption) | assumption)
      have hx4:=bt_at a0 x3_1
      replace p4:=eq_true p4
      replace q4:=eq_true q4
      go_wp2_with (first | ((with_reducible refine gate_callee (f:=125) rfl ?_);refine goesL_ (some 13) rfl rfl Tryd.func125 (by kernel_rfl) rfl #[.int .u8 (bt a0 x3_1)] rfl (by (try simp only [mA_,mC_,mN_]);first | done | rfl | (simp only [lD_,lT_];rfl)) ?_;(with_reducible refine (spec_l8Small.calls (bt a0 x3_1) true _ A5.out).mono ?_);rintro e w' ⟨rfl,⟨nd,rfl⟩⟩;refine ⟨_,rfl,?_⟩))
      go_roundg k1
      case measure=>have:=HK1.out;omega
      case rel=>exact ⟨(wrap64 (x3_1 + 1)),(by first | rfl | (simp;done) | (simp [*];done)),H', ⟨by have:=HK1.out;omega⟩,by repeat (first | exact Drawn0.refl _ | apply Drawn0.step)⟩
     ·replace c6:=Bool.eq_false_iff.mpr c6
      subst c6
      have H1 : (if x3_1 = 0 then (some false) else ((spec_l2Digit.f (bt a0 x3_1)).bind fun t206=>(if t206 = true then (spec_l8Name.l0 k1 a0 (wrap64 (x3_1 + 1))) else (some false)))) = some r:=by rw [if_neg (show ¬ (false = true) by decide)] at H;exact H
      clear H
      have H:=H1
      clear H1
      by_cases c7 : x3_1 = 0
      ·rw [if_pos c7] at H
       have c7b0 : (x3_1 == 0) = true:=beq_iff_eq.mpr c7
       have c7b1 : (x3_1 != 0) = false:=bne_eq_false_iff_eq.mpr c7
       clear c7
       obtain rfl:=Option.some.inj H
       have p4 : 0 ≤ (x3_1 : Int):=oT_ (by first | (with_reducible assumption) | assumption)
       have q4 : x3_1 < (a0.size : Int):=oT_ (by first | (with_reducible assumption) | assumption)
       have hx4:=bt_at a0 x3_1
       replace p4:=eq_true p4
       replace q4:=eq_true q4
       go_wp2_with (first | ((with_reducible refine gate_callee (f:=125) rfl ?_);refine goesL_ (some 13) rfl rfl Tryd.func125 (by kernel_rfl) rfl #[.int .u8 (bt a0 x3_1)] rfl (by (try simp only [mA_,mC_,mN_]);first | done | rfl | (simp only [lD_,lT_];rfl)) ?_;(with_reducible refine (spec_l8Small.calls (bt a0 x3_1) false _ A5.out).mono ?_);rintro e w' ⟨rfl,⟨nd,rfl⟩⟩;refine ⟨_,rfl,?_⟩))
       go_ret
       exact ⟨by first | rfl | (simp;done) | (simp [*];done),by repeat (first | exact Drawn0.refl _ | apply Drawn0.step)⟩
      ·rw [if_neg c7] at H
       have c7b0 : (x3_1 == 0) = false:=beq_eq_false_iff_ne.mpr c7
       have c7b1 : (x3_1 != 0) = true:=bne_iff_ne.mpr c7
       replace H:=oB_ H
       obtain ⟨t206,A90,H⟩:=H
       replace H : (if t206 = true then (spec_l8Name.l0 k1 a0 (wrap64 (x3_1 + 1))) else (some false)) = some r:=H
       have A9:=aM_ A90
       clear A90
       by_cases c10 : t206 = true
       ·subst c10
        have H1 : (spec_l8Name.l0 k1 a0 (wrap64 (x3_1 + 1))) = some r:=by rw [if_pos rfl] at H;exact H
        clear H
        have H:=H1
        clear H1
        have H':=aM_ H
        clear H
        have p4 : 0 ≤ (x3_1 : Int):=oT_ (by first | (with_reducible assumption) | assumption)
        have q4 : x3_1 < (a0.size : Int):=oT_ (by first | (with_reducible assumption) | assumption)
        have hx4:=bt_at a0 x3_1
        replace p4:=eq_true p4
        replace q4:=eq_true q4
        go_wp2_with (first | ((with_reducible refine gate_callee (f:=125) rfl ?_);refine goesL_ (some 13) rfl rfl Tryd.func125 (by kernel_rfl) rfl #[.int .u8 (bt a0 x3_1)] rfl (by (try simp only [mA_,mC_,mN_]);first | done | rfl | (simp only [lD_,lT_];rfl)) ?_;(with_reducible refine (spec_l8Small.calls (bt a0 x3_1) false _ A5.out).mono ?_);rintro e w' ⟨rfl,⟨nd,rfl⟩⟩;refine ⟨_,rfl,?_⟩;have p8 : 0 ≤ (x3_1 : Int):=oT_ (by first | (with_reducible assumption) | assumption);have q8 : x3_1 < (a0.size : Int):=oT_ (by first | (with_reducible assumption) | assumption);have hx8:=bt_at a0 x3_1;replace p8:=eq_true p8;replace q8:=eq_true q8) | (go_at_call 126;(with_reducible refine (spec_l2Digit.calls (bt a0 x3_1) true _ A9.out).mono ?_);rintro e w' ⟨rfl,⟨nd,rfl⟩⟩))
        go_roundg k1
        case measure=>have:=HK1.out;omega
        case rel=>exact ⟨(wrap64 (x3_1 + 1)),(by first | rfl | (simp;done) | (simp [*];done)),H', ⟨by have:=HK1.out;omega⟩,by repeat (first | exact Drawn0.refl _ | apply Drawn0.step)⟩
       ·replace c10:=Bool.eq_false_iff.mpr c10
        subst c10
        have H1 : (some false) = some r:=by rw [if_neg (show ¬ (false = true) by decide)] at H;exact H
        clear H
        have H:=H1
        clear H1
        obtain rfl:=Option.some.inj H
        have p4 : 0 ≤ (x3_1 : Int):=oT_ (by first | (with_reducible assumption) | assumption)
        have q4 : x3_1 < (a0.size : Int):=oT_ (by first | (with_reducible assumption) | assumption)
        have hx4:=bt_at a0 x3_1
        replace p4:=eq_true p4
        replace q4:=eq_true q4
        go_wp2_with (first | ((with_reducible refine gate_callee (f:=125) rfl ?_);refine goesL_ (some 13) rfl rfl Tryd.func125 (by kernel_rfl) rfl #[.int .u8 (bt a0 x3_1)] rfl (by (try simp only [mA_,mC_,mN_]);first | done | rfl | (simp only [lD_,lT_];rfl)) ?_;(with_reducible refine (spec_l8Small.calls (bt a0 x3_1) false _ A5.out).mono ?_);rintro e w' ⟨rfl,⟨nd,rfl⟩⟩;refine ⟨_,rfl,?_⟩;have p8 : 0 ≤ (x3_1 : Int):=oT_ (by first | (with_reducible assumption) | assumption);have q8 : x3_1 < (a0.size : Int):=oT_ (by first | (with_reducible assumption) | assumption);have hx8:=bt_at a0 x3_1;replace p8:=eq_true p8;replace q8:=eq_true q8) | (go_at_call 126;(with_reducible refine (spec_l2Digit.calls (bt a0 x3_1) false _ A9.out).mono ?_);rintro e w' ⟨rfl,⟨nd,rfl⟩⟩))
        go_ret
        exact ⟨by first | rfl | (simp;done) | (simp [*];done),by repeat (first | exact Drawn0.refl _ | apply Drawn0.step)⟩
    ·rw [if_neg c3] at H
     exact absurd H (by simp)
   ·rw [if_neg c2] at H
    have c2b0 : decide (x3_1 < (a0.size : Int)) = false:=decide_eq_false c2
    clear c2
    replace H:=oB_ H
    obtain ⟨t204,A110,H⟩:=H
    replace H : (some t204) = some r:=H
    have A11:=aM_ A110
    clear A110
    obtain rfl:=Option.some.inj H
    go_wp2_with (first | ((with_reducible refine gate_callee (f:=101) rfl ?_);refine goesL_ (some 28) rfl rfl Tryd.func101 (by kernel_rfl) rfl #[.int .i64 (a0.size : Int),.int .i64 1,.int .i64 8] rfl (by (try simp only [mA_,mC_,mN_]);first | done | rfl | (simp only [lD_,lT_];rfl)) ?_;(with_reducible refine (spec_l1In.calls (a0.size : Int) 1 8 t204 _ A11.out).mono ?_);rintro e w' ⟨rfl,⟨nd,rfl⟩⟩;refine ⟨_,rfl,?_⟩))
    go_ret
    exact ⟨by first | rfl | (simp;done) | (simp [*];done),by repeat (first | exact Drawn0.refl _ | apply Drawn0.step)⟩
def spec_l9Has.l0 : Nat → List ByteArray → ByteArray → Int → Option (Bool)
 | 0,_,_,_=>none
 | k + 1,x0,x1,x5=>if x5 < (x0.length : Int) then (if 0 ≤ x5 then (if (rdOf ByteArray.empty x0 x5).toList = x1.toList then (some true) else (spec_l9Has.l0 k x0 x1 (wrap64 (x5 + 1)))) else (none)) else (some false)
def spec_l9Has.f (k : Nat) (l0 : List ByteArray) (a1 : ByteArray) : Option (Bool):=spec_l9Has.l0 k l0 a1 0
theorem spec_l9Has.mono_l : ∀ k,(∀ y0 y1 y2,LeO (spec_l9Has.l0 k y0 y1 y2) (spec_l9Has.l0 (k + 1) y0 y1 y2))
 | 0=>fun _ _ _ r h=>by simp [spec_l9Has.l0] at h
 | k + 1=>by
  have ih0:=spec_l9Has.mono_l k
  ·intro y0 y1 y2
   unfold spec_l9Has.l0
   repeat' first
   | (with_reducible exact ih0 _ _ _)
   | (with_reducible exact LeO.refl _)
   | (with_reducible exact LeO.none _)
   | (with_reducible refine LeO.ite ?_ ?_)
   | (with_reducible refine LeO.bind ?_ (fun _=>?_))
   | exact ih0 _ _ _
   | exact LeO.none _
   | refine LeO.ite ?_ ?_
   | refine LeO.bind ?_ (fun _=>?_)
theorem spec_l9Has.mono : ∀ a0 a1 k,LeO (spec_l9Has.f k a0 a1) (spec_l9Has.f (k + 1) a0 a1):=by
 intro a0 a1 k
 have ih0:=spec_l9Has.mono_l k
 unfold spec_l9Has.f
 repeat' first
   | (with_reducible exact ih0 _ _ _)
   | (with_reducible exact LeO.refl _)
   | (with_reducible exact LeO.none _)
   | (with_reducible refine LeO.ite ?_ ?_)
   | (with_reducible refine LeO.bind ?_ (fun _=>?_))
   | exact ih0 _ _ _
   | exact LeO.none _
   | refine LeO.ite ?_ ?_
   | refine LeO.bind ?_ (fun _=>?_)
set_option maxHeartbeats 8000000 in
set_option maxRecDepth 100000 in
theorem spec_l9Has.calls (k : Nat) (A0 : Option Addr) (c0 : Nat) (l0 : List ByteArray) (a1 : ByteArray) (r : Bool) (w : World) (hr0 : Kd.C Kd.string w A0 l0.length l0) (hc0 : l0.length ≤ c0) (h : spec_l9Has.f k l0 a1 = some r) :
  Calls Tryd.prog 138 #[.slice A0 l0.length c0,.string a1] w fun e w'=>e = .returned (.bool r) ∧ Drawn0 w w':=by
 have HR0:=aM_ hr0
 have HC0:=aM_ hc0
 clear hr0 hc0
 have H : (spec_l9Has.l0 k l0 a1 0) = some r:=h
 clear h
 have H':=aM_ H
 clear H
 go_enter Tryd.func138,Tryd.ntmps138
 go_wp2
 (try simp only [Act.put,sI_,sS_,sZ_])
 go_loopg [5] k (fun kq v5 w'=>∃ (x5_1 : Int),v5 = .int .i64 x5_1 ∧ Aside0 (spec_l9Has.l0 kq l0 a1 x5_1 = some r) ∧ Aside0 (kq ≤ k) ∧ Drawn0 w w')
 case atStart=>exact ⟨(0),(by first | rfl | (simp;done) | (simp [*];done)),H', ⟨Nat.le_refl _⟩,by repeat (first | exact Drawn0.refl _ | apply Drawn0.step)⟩
 case round =>
  clear H'
  obtain ⟨x5_1,rfl,HA,HK1,⟨m1,rfl⟩⟩:=hrel
  cases gk with
  | zero=>exact absurd HA.out (by simp [spec_l9Has.l0])
  | succ k1 =>
   have H:=HA.out
   clear HA
   simp only [spec_l9Has.l0] at H
   by_cases c3 : x5_1 < (l0.length : Int)
   ·rw [if_pos c3] at H
    have c3b0 : decide (x5_1 < (l0.length : Int)) = true:=decide_eq_true c3
    clear c3
    by_cases c4 : 0 ≤ x5_1
    ·rw [if_pos c4] at H
     have c4b0 : decide (0 ≤ x5_1) = true:=decide_eq_true c4
     clear c4
     by_cases c5 : (rdOf ByteArray.empty l0 x5_1).toList = a1.toList
     ·rw [if_pos c5] at H
      have c5b0 : ((rdOf ByteArray.empty l0 x5_1).toList == a1.toList) = true:=beq_iff_eq.mpr c5
      have c5b1 : ((rdOf ByteArray.empty l0 x5_1).toList != a1.toList) = false:=bne_eq_false_iff_eq.mpr c5
      clear c5
      obtain rfl:=Option.some.inj H
      have p207 : 0 ≤ (x5_1 : Int):=oT_ (by first | (with_reducible assumption) | assumption)
      have q207 : x5_1 < (l0.length : Int):=oT_ (by first | (with_reducible assumption) | assumption)
      obtain ⟨ad207,e207,hx207_0⟩:=Kd.at_string HR0.out x5_1 p207 q207
      cases e207
      replace p207:=eq_true p207
      replace q207:=eq_true q207
      go_wp2
      go_ret
      exact ⟨by first | rfl | (simp;done) | (simp [*];done),by repeat (first | exact Drawn0.refl _ | apply Drawn0.step)⟩
     ·rw [if_neg c5] at H
      have c5b0 : ((rdOf ByteArray.empty l0 x5_1).toList == a1.toList) = false:=beq_eq_false_iff_ne.mpr c5
      have c5b1 : ((rdOf ByteArray.empty l0 x5_1).toList != a1.toList) = true:=bne_iff_ne.mpr c5
      have H':=aM_ H
      clear H
      have p207 : 0 ≤ (x5_1 : Int):=oT_ (by first | (with_reducible assumption) | assumption)
      have q207 : x5_1 < (l0.length : Int):=oT_ (by first | (with_reducible assumption) | assumption)
      obtain ⟨ad207,e207,hx207_0⟩:=Kd.at_string HR0.out x5_1 p207 q207
      cases e207
      replace p207:=eq_true p207
      replace q207:=eq_true q207
      go_wp2
      go_roundg k1
      case measure=>have:=HK1.out;omega
      case rel=>exact ⟨(wrap64 (x5_1 + 1)),(by first | rfl | (simp;done) | (simp [*];done)),H', ⟨by have:=HK1.out;omega⟩,by repeat (first | exact Drawn0.refl _ | apply Drawn0.step)⟩
    ·rw [if_neg c4] at H
     exact absurd H (by simp)
   ·rw [if_neg c3] at H
    have c3b0 : decide (x5_1 < (l0.length : Int)) = false:=decide_eq_false c3
    clear c3
    obtain rfl:=Option.some.inj H
    go_wp2
    go_ret
    exact ⟨by first | rfl | (simp;done) | (simp [*];done),by repeat (first | exact Drawn0.refl _ | apply Drawn0.step)⟩
def spec_l9Word.f (k : Nat) (a0 : ByteArray) : Option (Bool):=(spec_l8Name.f k a0).bind fun t208=>(if t208 = true then ((spec_l9Has.f k (([(⟨#[116,97,98,108,101]⟩ : ByteArray),(⟨#[112,114,105,109,97,114,121]⟩ : ByteArray),(⟨#[117,110,105,113,117,101]⟩ : ByteArray),(⟨#[105,110,100,101,120]⟩ : ByteArray),(⟨#[110,117,108,108]⟩ : ByteArray),(⟨#[100,101,115,99]⟩ : ByteArray),(⟨#[105,110,116]⟩ : ByteArray),(⟨#[110,117,109]⟩ : ByteArray),(⟨#[116,101,120,116]⟩ : ByteArray),(⟨#[98,111,111,108]⟩ : ByteArray)] : List ByteArray)) a0).bind fun t212=>(some (!t212))) else (some false))
theorem spec_l9Word.mono : ∀ a0 k,LeO (spec_l9Word.f k a0) (spec_l9Word.f (k + 1) a0):=by
 intro a0 k
 unfold spec_l9Word.f
 repeat' first
   | (with_reducible exact spec_l8Name.mono _ _)
   | (with_reducible exact spec_l9Has.mono _ _ _)
   | (with_reducible exact LeO.refl _)
   | (with_reducible exact LeO.none _)
   | (with_reducible refine LeO.ite ?_ ?_)
   | (with_reducible refine LeO.bind ?_ (fun _=>?_))
   | exact spec_l8Name.mono _ _
   | exact spec_l9Has.mono _ _ _
   | exact LeO.none _
   | refine LeO.ite ?_ ?_
   | refine LeO.bind ?_ (fun _=>?_)
set_option maxHeartbeats 8000000 in
set_option maxRecDepth 100000 in
theorem spec_l9Word.calls (k : Nat) (a0 : ByteArray) (r : Bool) (w : World) (h : spec_l9Word.f k a0 = some r) :
  Calls Tryd.prog 107 #[.string a0] w fun e w'=>e = .returned (.bool r) ∧ Below w.heap.size w w':=by
 have HB:=aM_ (Below.refl w.heap.size w)
 have H : ((spec_l8Name.f k a0).bind fun t208=>(if t208 = true then ((spec_l9Has.f k (([(⟨#[116,97,98,108,101]⟩ : ByteArray),(⟨#[112,114,105,109,97,114,121]⟩ : ByteArray),(⟨#[117,110,105,113,117,101]⟩ : ByteArray),(⟨#[105,110,100,101,120]⟩ : ByteArray),(⟨#[110,117,108,108]⟩ : ByteArray),(⟨#[100,101,115,99]⟩ : ByteArray),(⟨#[105,110,116]⟩ : ByteArray),(⟨#[110,117,109]⟩ : ByteArray),(⟨#[116,101,120,116]⟩ : ByteArray),(⟨#[98,111,111,108]⟩ : ByteArray)] : List ByteArray)) a0).bind fun t212=>(some (!t212))) else (some false))) = some r:=h
 clear h
 replace H:=oB_ H
 obtain ⟨t208,A20,H⟩:=H
 replace H : (if t208 = true then ((spec_l9Has.f k (([(⟨#[116,97,98,108,101]⟩ : ByteArray),(⟨#[112,114,105,109,97,114,121]⟩ : ByteArray),(⟨#[117,110,105,113,117,101]⟩ : ByteArray),(⟨#[105,110,100,101,120]⟩ : ByteArray),(⟨#[110,117,108,108]⟩ : ByteArray),(⟨#[100,101,115,99]⟩ : ByteArray),(⟨#[105,110,116]⟩ : ByteArray),(⟨#[110,117,109]⟩ : ByteArray),(⟨#[116,101,120,116]⟩ : ByteArray),(⟨#[98,111,111,108]⟩ : ByteArray)] : List ByteArray)) a0).bind fun t212=>(some (!t212))) else (some false)) = some r:=H
 have A2:=aM_ A20
 clear A20
 by_cases c3 : t208 = true
 ·subst c3
  have H1 : ((spec_l9Has.f k (([(⟨#[116,97,98,108,101]⟩ : ByteArray),(⟨#[112,114,105,109,97,114,121]⟩ : ByteArray),(⟨#[117,110,105,113,117,101]⟩ : ByteArray),(⟨#[105,110,100,101,120]⟩ : ByteArray),(⟨#[110,117,108,108]⟩ : ByteArray),(⟨#[100,101,115,99]⟩ : ByteArray),(⟨#[105,110,116]⟩ : ByteArray),(⟨#[110,117,109]⟩ : ByteArray),(⟨#[116,101,120,116]⟩ : ByteArray),(⟨#[98,111,111,108]⟩ : ByteArray)] : List ByteArray)) a0).bind fun t212=>(some (!t212))) = some r:=by rw [if_pos rfl] at H;exact H
  clear H
  have H:=H1
  clear H1
  obtain ⟨y209,hy209⟩ : ∃ y_ : List ByteArray,y_ = (([(⟨#[116,97,98,108,101]⟩ : ByteArray),(⟨#[112,114,105,109,97,114,121]⟩ : ByteArray),(⟨#[117,110,105,113,117,101]⟩ : ByteArray),(⟨#[105,110,100,101,120]⟩ : ByteArray),(⟨#[110,117,108,108]⟩ : ByteArray),(⟨#[100,101,115,99]⟩ : ByteArray),(⟨#[105,110,116]⟩ : ByteArray),(⟨#[110,117,109]⟩ : ByteArray),(⟨#[116,101,120,116]⟩ : ByteArray),(⟨#[98,111,111,108]⟩ : ByteArray)] : List ByteArray)):=⟨_,rfl⟩
  replace H : ((spec_l9Has.f k y209 a0).bind fun t212=>(some (!t212))) = some r:=by first | (rw [hy209];with_reducible exact H) | (have H2_:=(Option.bind_some _ _).symm.trans H;rw [hy209];with_reducible exact H2_) | (have H2_:=(Option.bind_some _ _).symm.trans H;with_reducible exact H2_) | with_reducible exact H | (rw [hy209];exact H) | exact H
  have Ny209:=aM_ hy209
  clear hy209
  replace H:=oB_ H
  obtain ⟨t212,A40,H⟩:=H
  replace H : (some (!t212)) = some r:=H
  have A4:=aM_ A40
  clear A40
  obtain rfl:=Option.some.inj H
  go_enter Tryd.func107,Tryd.ntmps107
  go_wp2_with (first | ((with_reducible refine gate_callee (f:=137) rfl ?_);refine goesL_ (some 4) rfl rfl Tryd.func137 (by kernel_rfl) rfl #[.string a0] rfl (by (try simp only [mA_,mC_,mN_]);first | done | rfl | (simp only [lD_,lT_];rfl)) ?_;(with_reducible refine (spec_l8Name.calls k a0 true _ A2.out).mono ?_);rintro e w' ⟨rfl,⟨nd,rfl⟩⟩;refine ⟨_,rfl,?_⟩) | ((with_reducible refine gate_dst (N:=6) rfl ?_);(try (refine gate_guard (by rfl) ?_;dsimp only));refine Kd.R_lit Kd.string _ 9 ?hg (N:=6) ?hd (xs:=([(⟨#[116,97,98,108,101]⟩ : ByteArray),(⟨#[112,114,105,109,97,114,121]⟩ : ByteArray),(⟨#[117,110,105,113,117,101]⟩ : ByteArray),(⟨#[105,110,100,101,120]⟩ : ByteArray),(⟨#[110,117,108,108]⟩ : ByteArray),(⟨#[100,101,115,99]⟩ : ByteArray),(⟨#[105,110,116]⟩ : ByteArray),(⟨#[110,117,109]⟩ : ByteArray),(⟨#[116,101,120,116]⟩ : ByteArray),(⟨#[98,111,111,108]⟩ : ByteArray)] : List ByteArray)) (inner:=[.string (⟨#[116,97,98,108,101]⟩ : ByteArray),.string (⟨#[112,114,105,109,97,114,121]⟩ : ByteArray),.string (⟨#[117,110,105,113,117,101]⟩ : ByteArray),.string (⟨#[105,110,100,101,120]⟩ : ByteArray),.string (⟨#[110,117,108,108]⟩ : ByteArray),.string (⟨#[100,101,115,99]⟩ : ByteArray),.string (⟨#[105,110,116]⟩ : ByteArray),.string (⟨#[110,117,109]⟩ : ByteArray),.string (⟨#[116,101,120,116]⟩ : ByteArray),.string (⟨#[98,111,111,108]⟩ : ByteArray)]) (ok:=fun _=>True) (okp:=fun _=>True) ?hr ?hp (fun _ hk=>hk) trivial (Below.refl _ _) (Nat.le_refl _) (by simp) ?_;(case hd=>rfl);(case hg=>rfl);(case hr=>first | (go_simp;done) | (go_simp;rfl));(case hp=>exact (Reps.one (show Kd.M Kd.string _ _ _ (⟨#[116,97,98,108,101]⟩ : ByteArray) [.string (⟨#[116,97,98,108,101]⟩ : ByteArray)] from rfl) (Reps.one (show Kd.M Kd.string _ _ _ (⟨#[112,114,105,109,97,114,121]⟩ : ByteArray) [.string (⟨#[112,114,105,109,97,114,121]⟩ : ByteArray)] from rfl) (Reps.one (show Kd.M Kd.string _ _ _ (⟨#[117,110,105,113,117,101]⟩ : ByteArray) [.string (⟨#[117,110,105,113,117,101]⟩ : ByteArray)] from rfl) (Reps.one (show Kd.M Kd.string _ _ _ (⟨#[105,110,100,101,120]⟩ : ByteArray) [.string (⟨#[105,110,100,101,120]⟩ : ByteArray)] from rfl) (Reps.one (show Kd.M Kd.string _ _ _ (⟨#[110,117,108,108]⟩ : ByteArray) [.string (⟨#[110,117,108,108]⟩ : ByteArray)] from rfl) (Reps.one (show Kd.M Kd.string _ _ _ (⟨#[100,101,115,99]⟩ : ByteArray) [.string (⟨#[100,101,115,99]⟩ : ByteArray)] from rfl) (Reps.one (show Kd.M Kd.string _ _ _ (⟨#[105,110,116]⟩ : ByteArray) [.string (⟨#[105,110,116]⟩ : ByteArray)] from rfl) (Reps.one (show Kd.M Kd.string _ _ _ (⟨#[110,117,109]⟩ : ByteArray) [.string (⟨#[110,117,109]⟩ : ByteArray)] from rfl) (Reps.one (show Kd.M Kd.string _ _ _ (⟨#[116,101,120,116]⟩ : ByteArray) [.string (⟨#[116,101,120,116]⟩ : ByteArray)] from rfl) (Reps.one (show Kd.M Kd.string _ _ _ (⟨#[98,111,111,108]⟩ : ByteArray) [.string (⟨#[98,111,111,108]⟩ : ByteArray)] from rfl) (Reps.none _ _))))))))))));intro v210 w5 ho6 hb hg_ hnew_;clear hg_ hnew_;(first | rw [← Ny209.out] at ho6 | (simp only [Int.reduceToNat] at ho6;rw [← Ny209.out] at ho6));have n0_:=aM_ (Kd.R_lower ho6 (bS_ (by exact bZ_ HB)));have n1_:=aM_ (bT_ (by exact bZ_ HB) hb);clear HB;have HO211:=n0_;have HB:=n1_;clear n0_ n1_ hb ho6;obtain ⟨Ao7,co7,eo7⟩:=Kd.R_slice HO211.out;subst eo7) | (go_at_call 138;(with_reducible refine (spec_l9Has.calls k _ _ y209 a0 t212 _ ?side1 ?side2 A4.out).mono ?_);(case side1=>repeat (first | exact (Kd.R_reads' HO211.out).2.2 | (with_reducible refine cA_ ?_ _) | (with_reducible refine cN_ ?_ _) | (with_reducible refine cD_ ?_)));(case side2=>exact (Kd.R_reads' HO211.out).2.1);rintro e w' ⟨rfl,⟨nd,rfl⟩⟩))
  go_ret
  exact ⟨by first | rfl | (simp [errW_none,errW_some] <;> rfl) | (simp [*, errW_none,errW_some] <;> rfl),by exact bZ_ HB⟩
 ·replace c3:=Bool.eq_false_iff.mpr c3
  subst c3
  have H1 : (some false) = some r:=by rw [if_neg (show ¬ (false = true) by decide)] at H;exact H
  clear H
  have H:=H1
  clear H1
  obtain rfl:=Option.some.inj H
  go_enter Tryd.func107,Tryd.ntmps107
  go_wp2_with (first | ((with_reducible refine gate_callee (f:=137) rfl ?_);refine goesL_ (some 4) rfl rfl Tryd.func137 (by kernel_rfl) rfl #[.string a0] rfl (by (try simp only [mA_,mC_,mN_]);first | done | rfl | (simp only [lD_,lT_];rfl)) ?_;(with_reducible refine (spec_l8Name.calls k a0 false _ A2.out).mono ?_);rintro e w' ⟨rfl,⟨nd,rfl⟩⟩;refine ⟨_,rfl,?_⟩))
  go_ret
  exact ⟨by first | rfl | (simp [errW_none,errW_some] <;> rfl) | (simp [*, errW_none,errW_some] <;> rfl),by exact bZ_ HB⟩
end Go.Proofs.YtipehkeabnfngaaDoor.PFnExactDefsText
