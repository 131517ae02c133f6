import Derived.Test.YtipehkeabnfngaaDoorZFBPFnExactFirstBadx0
import Derived.Test.YtipehkeabnfngaaDoorZFBPFnExactFirstBadx1
import Derived.Test.YtipehkeabnfngaaDoorZFBPFnExactFirstBadx5
import Derived.Test.YtipehkeabnfngaaDoorZFBPFnExactFirstBadx6
import Derived.Test.YtipehkeabnfngaaDoorZFBPFnExactFirstBadx11
import Derived.Test.YtipehkeabnfngaaDoorZFBPFnExactFirstBadx13
namespace Go.Proofs.YtipehkeabnfngaaDoor.PFnExactFirstBad
open Go.RowKit Go.Proofs.YtipehkeabnfngaaDoorW.PrintWords Go.Proofs.YtipehkeabnfngaaDoorW.PrintLast Go.Proofs.YtipehkeabnfngaaDoorW.PrintMore Go.Proofs.YtipehkeabnfngaaDoor.Xtra
attribute [local go_sem] max2_int min2_int max_two min_two max_three min_three max_four min_four str_leq str_gtr str_geq setCell_drewN cell_set2 cell_set3   -- for this text's walks alone
set_option linter.unusedVariables false
set_option linter.unusedSimpArgs false
def laws_eqDefS.l0 : Nat → List (S35) → List (S35) → Int → Option (Bool)
 | 0,_,_,_=>none
 | k + 1,x0,x1,x5=>if x5 < (x0.length : Int) then (if 0 ≤ x5 then (if x5 < (x1.length : Int) then ((laws_eqDef.f k ((rd_T35 x0 x5).f0) ((rd_T35 x0 x5).f1) ((rd_T35 x0 x5).f2) ((rd_T35 x0 x5).f3) ((rd_T35 x1 x5).f0) ((rd_T35 x1 x5).f1) ((rd_T35 x1 x5).f2) ((rd_T35 x1 x5).f3)).bind fun t317=>(if t317 = true then (laws_eqDefS.l0 k x0 x1 (wrap64 (x5 + 1))) else (some false))) else (none)) else (none)) else (some true)
def laws_eqDefS.f (k : Nat) (l0 : List (S35)) (l1 : List (S35)) : Option (Bool):=if (l0.length : Int) = (l1.length : Int) then (laws_eqDefS.l0 k l0 l1 0) else (some false)
theorem laws_eqDefS.mono_l : ∀ k,(∀ y0 y1 y2,LeO (laws_eqDefS.l0 k y0 y1 y2) (laws_eqDefS.l0 (k + 1) y0 y1 y2))
 | 0=>fun _ _ _ r h=>by simp [laws_eqDefS.l0] at h
 | k + 1=>by
  have ih0:=laws_eqDefS.mono_l k
  ·intro y0 y1 y2
   unfold laws_eqDefS.l0
   repeat' first
   | (with_reducible exact ih0 _ _ _)
   | (with_reducible exact laws_eqDef.mono _ _ _ _ _ _ _ _ _)
   | (with_reducible exact LeO.refl _)
   | (with_reducible exact LeO.none _)
   | (with_reducible refine LeO.ite ?_ ?_)
   | (with_reducible refine LeO.bind ?_ (fun _=>?_))
   | exact ih0 _ _ _
   | exact laws_eqDef.mono _ _ _ _ _ _ _ _ _
   | exact LeO.none _
   | refine LeO.ite ?_ ?_
   | refine LeO.bind ?_ (fun _=>?_)
theorem laws_eqDefS.mono : ∀ a0 a1 k,LeO (laws_eqDefS.f k a0 a1) (laws_eqDefS.f (k + 1) a0 a1):=by
 intro a0 a1 k
 have ih0:=laws_eqDefS.mono_l k
 unfold laws_eqDefS.f
 repeat' first
   | (with_reducible exact ih0 _ _ _)
   | (with_reducible exact laws_eqDef.mono _ _ _ _ _ _ _ _ _)
   | (with_reducible exact LeO.refl _)
   | (with_reducible exact LeO.none _)
   | (with_reducible refine LeO.ite ?_ ?_)
   | (with_reducible refine LeO.bind ?_ (fun _=>?_))
   | exact ih0 _ _ _
   | exact laws_eqDef.mono _ _ _ _ _ _ _ _ _
   | exact LeO.none _
   | refine LeO.ite ?_ ?_
   | refine LeO.bind ?_ (fun _=>?_)
def laws_eqDefS.T6 : Bool × List (List Nat × List Nat):=(true,[([],[]),([],[]),([0,1],[0,1]),([2],[2]),([],[]),([],[]),([4,5],[4,5]),([6],[6]),([3,7],[3,7]),([8],[8])])
def laws_eqDefS.B6 : List Nat:=[0,0,3,7,0,0,48,112,255,511]
theorem laws_eqDefS.tab6 : rtab .any (opsOf Tryd.f18 6) = laws_eqDefS.T6:=by kernel_rfl
theorem laws_eqDefS.bits6 : waitsOk laws_eqDefS.T6.2 laws_eqDefS.B6 = true:=by kernel_rfl
set_option maxHeartbeats 8000000 in
set_option maxRecDepth 100000 in
theorem laws_eqDefS.calls (k : Nat) (A0 : Option Addr) (c0 : Nat) (l0 : List (S35)) (A1 : Option Addr) (c1 : Nat) (l1 : List (S35)) (r : Bool) (w : World) (hr0 : Kd.C k35 w A0 l0.length l0) (hc0 : l0.length ≤ c0) (hr1 : Kd.C k35 w A1 l1.length l1) (hc1 : l1.length ≤ c1) (h : laws_eqDefS.f k l0 l1 = some r) :
  Calls Tryd.prog 18 #[.slice A0 l0.length c0,.slice A1 l1.length c1] w fun e w'=>e = .returned (.bool r) ∧ Below w.heap.size w w':=by
 have hu35:=Tryd.underlying35
 have HR0:=aM_ hr0
 have HC0:=aM_ hc0
 clear hr0 hc0
 have HR1:=aM_ hr1
 have HC1:=aM_ hc1
 clear hr1 hc1
 have HB:=aM_ (Below.refl w.heap.size w)
 have H : (if (l0.length : Int) = (l1.length : Int) then (laws_eqDefS.l0 k l0 l1 0) else (some false)) = some r:=h
 clear h
 by_cases c3 : (l0.length : Int) = (l1.length : Int)
 ·rw [if_pos c3] at H
  have c3b0 : ((l0.length : Int) == (l1.length : Int)) = true:=beq_iff_eq.mpr c3
  have c3b1 : ((l0.length : Int) != (l1.length : Int)) = false:=bne_eq_false_iff_eq.mpr c3
  have c3b2 : (l0.length == l1.length) = true:=by first | simpa using c3 | (simp at c3 ⊢;omega)
  clear c3
  have H':=aM_ H
  clear H
  go_enter Tryd.func18,Tryd.ntmps18
  go_wp2
  (try simp only [Act.put,sI_,sS_,sZ_])
  go_loopg [5] k (fun kq v5 w'=>∃ (x5_1 : Int),v5 = .int .i64 x5_1 ∧ Aside0 (laws_eqDefS.l0 kq l0 l1 x5_1 = some r) ∧ Aside0 (kq ≤ k) ∧ Aside0 (Below w.heap.size w w'))
  case atStart=>exact ⟨(0),(by first | rfl | (simp;done) | (simp [*];done)),H', ⟨Nat.le_refl _⟩,⟨by exact bZ_ HB⟩⟩
  case round =>
   clear H'
   try clear c1
   try clear p2
   try clear c3
   try clear c3b0
   try clear c3b1
   try clear c3b2
   obtain ⟨x5_1,rfl,HA,HK1,HB⟩:=hrel
   cases gk with
   | zero=>exact absurd HA.out (by simp [laws_eqDefS.l0])
   | succ k1 =>
    have H:=HA.out
    clear HA
    simp only [laws_eqDefS.l0] at H
    by_cases c4 : x5_1 < (l0.length : Int)
    ·rw [if_pos c4] at H
     have c4b0 : decide (x5_1 < (l0.length : Int)) = true:=decide_eq_true c4
     clear c4
     by_cases c5 : 0 ≤ x5_1
     ·rw [if_pos c5] at H
      have c5b0 : decide (0 ≤ x5_1) = true:=decide_eq_true c5
      clear c5
      by_cases c6 : x5_1 < (l1.length : Int)
      ·rw [if_pos c6] at H
       have c6b0 : decide (x5_1 < (l1.length : Int)) = true:=decide_eq_true c6
       clear c6
       replace H:=oB_ H
       obtain ⟨t317,A70,H⟩:=H
       replace H : (if t317 = true then (laws_eqDefS.l0 k1 l0 l1 (wrap64 (x5_1 + 1))) else (some false)) = some r:=H
       have A7:=aM_ A70
       clear A70
       by_cases c8 : t317 = true
       ·subst c8
        have H1 : (laws_eqDefS.l0 k1 l0 l1 (wrap64 (x5_1 + 1))) = some r:=by rw [if_pos rfl] at H;exact H
        clear H
        have H:=H1
        clear H1
        have H':=aM_ H
        clear H
        try go_wp2
        have n0_:=aM_ (bD_ HB.out)
        clear HB
        have HB:=n0_
        clear n0_
        have p315 : 0 ≤ (x5_1 : Int):=oT_ (by first | (with_reducible assumption) | assumption)
        have q315 : x5_1 < (l0.length : Int):=oT_ (by first | (with_reducible assumption) | assumption)
        obtain ⟨ad315,A315_1,c315_1,A315_2,c315_2,A315_3,c315_3,e315,hx315_0,hx315_1,hx315_2,hx315_3,hl315_1,hi315_1,hl315_2,hi315_2,hl315_3,hi315_3⟩:=at_T35 HR0.out x5_1 p315 q315
        have hw315_3:=hx315_3
        have hw315_2:=hx315_2
        have hw315_1:=hx315_1
        have hw315_0:=hx315_0
        cases e315
        replace hx315_0:=(HB.out.cell (wL_ w _ hx315_0)).trans hx315_0
        replace hx315_1:=(HB.out.cell (wL_ w _ hx315_1)).trans hx315_1
        replace hx315_2:=(HB.out.cell (wL_ w _ hx315_2)).trans hx315_2
        replace hx315_3:=(HB.out.cell (wL_ w _ hx315_3)).trans hx315_3
        have HR315_1:=aM_ hi315_1
        have HC315_1:=aM_ hl315_1
        clear hi315_1 hl315_1
        have HR315_2:=aM_ hi315_2
        have HC315_2:=aM_ hl315_2
        clear hi315_2 hl315_2
        have HR315_3:=aM_ hi315_3
        have HC315_3:=aM_ hl315_3
        clear hi315_3 hl315_3
        replace p315:=eq_true p315
        replace q315:=eq_true q315
        have p316 : 0 ≤ (x5_1 : Int):=oT_ (by first | (with_reducible assumption) | assumption)
        have q316 : x5_1 < (l1.length : Int):=oT_ (by first | (with_reducible assumption) | assumption)
        obtain ⟨ad316,A316_1,c316_1,A316_2,c316_2,A316_3,c316_3,e316,hx316_0,hx316_1,hx316_2,hx316_3,hl316_1,hi316_1,hl316_2,hi316_2,hl316_3,hi316_3⟩:=at_T35 HR1.out x5_1 p316 q316
        have hw316_3:=hx316_3
        have hw316_2:=hx316_2
        have hw316_1:=hx316_1
        have hw316_0:=hx316_0
        cases e316
        replace hx316_0:=(HB.out.cell (wL_ w _ hx316_0)).trans hx316_0
        replace hx316_1:=(HB.out.cell (wL_ w _ hx316_1)).trans hx316_1
        replace hx316_2:=(HB.out.cell (wL_ w _ hx316_2)).trans hx316_2
        replace hx316_3:=(HB.out.cell (wL_ w _ hx316_3)).trans hx316_3
        have HR316_1:=aM_ hi316_1
        have HC316_1:=aM_ hl316_1
        clear hi316_1 hl316_1
        have HR316_2:=aM_ hi316_2
        have HC316_2:=aM_ hl316_2
        clear hi316_2 hl316_2
        have HR316_3:=aM_ hi316_3
        have HC316_3:=aM_ hl316_3
        clear hi316_3 hl316_3
        replace p316:=eq_true p316
        replace q316:=eq_true q316
        refine start_ (n:=10) (S:=fun w'=>w'.cell? (ad315.add ((x5_1).toNat * 4)) = some (.string ((rd_T35 l0 x5_1).f0)) ∧ w'.cell? ⟨(ad315.add ((x5_1).toNat * 4)).block,(ad315.add ((x5_1).toNat * 4)).off + 1,none⟩ = some (.slice A315_1 ((rd_T35 l0 x5_1).f1).length c315_1) ∧ w'.cell? ⟨(ad315.add ((x5_1).toNat * 4)).block,(ad315.add ((x5_1).toNat * 4)).off + 2,none⟩ = some (.slice A315_2 ((rd_T35 l0 x5_1).f2).length c315_2) ∧ w'.cell? ⟨(ad315.add ((x5_1).toNat * 4)).block,(ad315.add ((x5_1).toNat * 4)).off + 3,none⟩ = some (.slice A315_3 ((rd_T35 l0 x5_1).f3).length c315_3) ∧ w'.cell? (ad316.add ((x5_1).toNat * 4)) = some (.string ((rd_T35 l1 x5_1).f0)) ∧ w'.cell? ⟨(ad316.add ((x5_1).toNat * 4)).block,(ad316.add ((x5_1).toNat * 4)).off + 1,none⟩ = some (.slice A316_1 ((rd_T35 l1 x5_1).f1).length c316_1) ∧ w'.cell? ⟨(ad316.add ((x5_1).toNat * 4)).block,(ad316.add ((x5_1).toNat * 4)).off + 2,none⟩ = some (.slice A316_2 ((rd_T35 l1 x5_1).f2).length c316_2) ∧ w'.cell? ⟨(ad316.add ((x5_1).toNat * 4)).block,(ad316.add ((x5_1).toNat * 4)).off + 3,none⟩ = some (.slice A316_3 ((rd_T35 l1 x5_1).f3).length c316_3)) (ds:=[]) (tb_ 0 10) (by kernel_rfl) rfl rfl ⟨((HB.out.cell (wL_ w _ hw315_0)).trans hw315_0),((HB.out.cell (wL_ w _ hw315_1)).trans hw315_1),((HB.out.cell (wL_ w _ hw315_2)).trans hw315_2),((HB.out.cell (wL_ w _ hw315_3)).trans hw315_3),((HB.out.cell (wL_ w _ hw316_0)).trans hw316_0),((HB.out.cell (wL_ w _ hw316_1)).trans hw316_1),((HB.out.cell (wL_ w _ hw316_2)).trans hw316_2),((HB.out.cell (wL_ w _ hw316_3)).trans hw316_3)⟩ (fun hHeld=>?_);refine with_tabW laws_eqDefS.tab6 laws_eqDefS.bits6 (fun HT_ HW_=>?_)
        generalize wr.drew = w9 at HB HR315_1 HR315_2 HR315_3 HR316_1 HR316_2 HR316_3 hx315_0 hx315_1 hx315_2 hx315_3 hx316_0 hx316_1 hx316_2 hx316_3 hHeld ⊢
        refine pure_ (i:=0) (N:=some 17) (v:=?_) (a':=?_) (tb_ 1 9) rfl rfl (any_of HT_.out (by kernel_rfl)) (fun _ _ _ h=>h) (Or.inl ⟨by rfl,?_⟩) ?_ ?_
        rotate_left
        ·intro w'
         go_simp
         with_reducible rfl
        rotate_left
        ·simp only [Act.put,sI_,sZ_,sS_,i64_w,i32_w]
         rfl
        refine pure_ (i:=1) (N:=some 18) (v:=?_) (a':=?_) (tb_ 2 8) rfl rfl (any_of HT_.out (by kernel_rfl)) (fun _ _ _ h=>h) (Or.inl ⟨by rfl,?_⟩) ?_ ?_
        rotate_left
        ·intro w'
         go_simp
         with_reducible rfl
        rotate_left
        ·simp only [Act.put,sI_,sZ_,sS_,i64_w,i32_w]
         rfl
        refine pure_ (i:=2) (N:=some 19) (v:=?_) (a':=?_) (tb_ 3 7) rfl rfl (any_of HT_.out (by kernel_rfl)) (fun _ _ _ h=>h) (Or.inl ⟨by rfl,?_⟩) ?_ ?_
        rotate_left
        ·intro w'
         go_simp
         with_reducible rfl
        rotate_left
        ·simp only [Act.put,sI_,sZ_,sS_,i64_w,i32_w]
         rfl
        refine pure_ (i:=4) (N:=some 21) (v:=?_) (a':=?_) #[true,true,true,false,true,false,false,false,false,false] rfl rfl (any_of HT_.out (by kernel_rfl)) (fun _ _ _ h=>h) (Or.inl ⟨by rfl,?_⟩) ?_ ?_
        rotate_left
        ·intro w'
         go_simp
         with_reducible rfl
        rotate_left
        ·simp only [Act.put,sI_,sZ_,sS_,i64_w,i32_w]
         rfl
        refine pure_ (i:=5) (N:=some 22) (v:=?_) (a':=?_) #[true,true,true,false,true,true,false,false,false,false] rfl rfl (any_of HT_.out (by kernel_rfl)) (fun _ _ _ h=>h) (Or.inl ⟨by rfl,?_⟩) ?_ ?_
        rotate_left
        ·intro w'
         go_simp
         with_reducible rfl
        rotate_left
        ·simp only [Act.put,sI_,sZ_,sS_,i64_w,i32_w]
         rfl
        refine pure_ (i:=6) (N:=some 23) (v:=?_) (a':=?_) #[true,true,true,false,true,true,true,false,false,false] rfl rfl (any_of HT_.out (by kernel_rfl)) (fun _ _ _ h=>h) (Or.inl ⟨by rfl,?_⟩) ?_ ?_
        rotate_left
        ·intro w'
         go_simp
         with_reducible rfl
        rotate_left
        ·simp only [Act.put,sI_,sZ_,sS_,i64_w,i32_w]
         rfl
        refine take_ (i:=3) (N:=some 20) (v:=?_) (a':=?_) (tb_ 7 3) rfl rfl (take_ofW HT_.out HW_.out (by kernel_rfl)) (fun _ _ _ h=>h) (Or.inl ⟨by rfl,?_⟩) hHeld ?_ ?_
        rotate_left
        ·rintro w' ⟨s0,s1,s2,s3,s4,s5,s6,s7⟩
         go_simp
         with_reducible rfl
        rotate_left
        ·simp only [Act.put,sI_,sZ_,sS_,i64_w,i32_w]
         rfl
        refine take_ (i:=7) (N:=some 24) (v:=?_) (a':=?_) (tb_ 8 2) rfl rfl (take_ofW HT_.out HW_.out (by kernel_rfl)) (fun _ _ _ h=>h) (Or.inl ⟨by rfl,?_⟩) hHeld ?_ ?_
        rotate_left
        ·rintro w' ⟨s0,s1,s2,s3,s4,s5,s6,s7⟩
         go_simp
         with_reducible rfl
        rotate_left
        ·simp only [Act.put,sI_,sZ_,sS_,i64_w,i32_w]
         rfl
        refine one_ (i:=8) (N:=some 25) (tb_ 9 1) rfl rfl (one_of HT_.out (by kernel_rfl)) (by decide) (fun K hK=>?_)
        refine goes_ Tryd.func30 (by kernel_rfl) rfl #[.agg #[.string ((rd_T35 l0 x5_1).f0),.slice A315_1 ((rd_T35 l0 x5_1).f1).length c315_1,.slice A315_2 ((rd_T35 l0 x5_1).f2).length c315_2,.slice A315_3 ((rd_T35 l0 x5_1).f3).length c315_3],.agg #[.string ((rd_T35 l1 x5_1).f0),.slice A316_1 ((rd_T35 l1 x5_1).f1).length c316_1,.slice A316_2 ((rd_T35 l1 x5_1).f2).length c316_2,.slice A316_3 ((rd_T35 l1 x5_1).f3).length c316_3]] (by rfl) rfl rfl (by (try simp only [mA_,mC_,mN_]);first | done | rfl | (simp only [lD_,lT_];rfl)) ?_
        with_reducible refine (laws_eqDef.calls k1 ((rd_T35 l0 x5_1).f0) _ _ ((rd_T35 l0 x5_1).f1) _ _ ((rd_T35 l0 x5_1).f2) _ _ ((rd_T35 l0 x5_1).f3) ((rd_T35 l1 x5_1).f0) _ _ ((rd_T35 l1 x5_1).f1) _ _ ((rd_T35 l1 x5_1).f2) _ _ ((rd_T35 l1 x5_1).f3) true _ ?side1 ?side2 ?side3 ?side4 ?side5 ?side6 ?side7 ?side8 ?side9 ?side10 ?side11 ?side12 A7.out).mono ?_
        (case side1=>repeat (first | exact (Kd.C_below HR315_1.out HB.out) | (with_reducible refine cA_ ?_ _) | (with_reducible refine cN_ ?_ _) | (with_reducible refine cD_ ?_)))
        (case side2=>exact HC315_1.out)
        (case side3=>repeat (first | exact (Kd.C_below HR315_2.out HB.out) | (with_reducible refine cA_ ?_ _) | (with_reducible refine cN_ ?_ _) | (with_reducible refine cD_ ?_)))
        (case side4=>exact HC315_2.out)
        (case side5=>repeat (first | exact (Kd.C_below HR315_3.out HB.out) | (with_reducible refine cA_ ?_ _) | (with_reducible refine cN_ ?_ _) | (with_reducible refine cD_ ?_)))
        (case side6=>exact HC315_3.out)
        (case side7=>repeat (first | exact (Kd.C_below HR316_1.out HB.out) | (with_reducible refine cA_ ?_ _) | (with_reducible refine cN_ ?_ _) | (with_reducible refine cD_ ?_)))
        (case side8=>exact HC316_1.out)
        (case side9=>repeat (first | exact (Kd.C_below HR316_2.out HB.out) | (with_reducible refine cA_ ?_ _) | (with_reducible refine cN_ ?_ _) | (with_reducible refine cD_ ?_)))
        (case side10=>exact HC316_2.out)
        (case side11=>repeat (first | exact (Kd.C_below HR316_3.out HB.out) | (with_reducible refine cA_ ?_ _) | (with_reducible refine cN_ ?_ _) | (with_reducible refine cD_ ?_)))
        (case side12=>exact HC316_3.out)
        rintro e w10 ⟨rfl,hb⟩
        refine ⟨_,rfl,?_⟩
        have n0_:=aM_ (bT_ (by exact bZ_ HB) hb)
        clear HB
        have HB:=n0_
        clear n0_
        (try clear hb)
        (try clear hb2)
        (try clear hk)
        (try clear hi)
        refine hK.out _ _ ⟨((HB.out.cell (wL_ w _ hw315_0)).trans hw315_0),((HB.out.cell (wL_ w _ hw315_1)).trans hw315_1),((HB.out.cell (wL_ w _ hw315_2)).trans hw315_2),((HB.out.cell (wL_ w _ hw315_3)).trans hw315_3),((HB.out.cell (wL_ w _ hw316_0)).trans hw316_0),((HB.out.cell (wL_ w _ hw316_1)).trans hw316_1),((HB.out.cell (wL_ w _ hw316_2)).trans hw316_2),((HB.out.cell (wL_ w _ hw316_3)).trans hw316_3)⟩ (fun hHeld=>?_)
        clear hK K
        refine norm_ (a':=?_) ?_ ?_
        rotate_left
        ·show Act.put _ (some 25) _ = _
         simp only [Act.put,sI_,sZ_,sS_,i64_w,i32_w]
         rfl
        refine pure_ (i:=9) (N:=some 26) (v:=?_) (a':=?_) (tb_ 10 0) rfl rfl (any_of HT_.out (by kernel_rfl)) (fun _ _ _ h=>h) (Or.inl ⟨by rfl,?_⟩) ?_ ?_
        rotate_left
        ·intro w'
         go_simp
         with_reducible rfl
        rotate_left
        ·simp only [Act.put,sI_,sZ_,sS_,i64_w,i32_w]
         rfl
        refine done_ (done_of HT_.out (by kernel_rfl)) ?_
        try go_wp2
        go_roundg k1
        case measure=>have:=HK1.out;omega
        case rel=>exact ⟨(wrap64 (x5_1 + 1)),(by first | rfl | (simp;done) | (simp [*];done)),H', ⟨by have:=HK1.out;omega⟩,⟨by exact bZ_ HB⟩⟩
       ·replace c8:=Bool.eq_false_iff.mpr c8
        subst c8
        have H1 : (some false) = some r:=by rw [if_neg (show ¬ (false = true) by decide)] at H;exact H
        clear H
        have H:=H1
        clear H1
        obtain rfl:=Option.some.inj H
        try go_wp2
        have n0_:=aM_ (bD_ HB.out)
        clear HB
        have HB:=n0_
        clear n0_
        have p315 : 0 ≤ (x5_1 : Int):=oT_ (by first | (with_reducible assumption) | assumption)
        have q315 : x5_1 < (l0.length : Int):=oT_ (by first | (with_reducible assumption) | assumption)
        obtain ⟨ad315,A315_1,c315_1,A315_2,c315_2,A315_3,c315_3,e315,hx315_0,hx315_1,hx315_2,hx315_3,hl315_1,hi315_1,hl315_2,hi315_2,hl315_3,hi315_3⟩:=at_T35 HR0.out x5_1 p315 q315
        have hw315_3:=hx315_3
        have hw315_2:=hx315_2
        have hw315_1:=hx315_1
        have hw315_0:=hx315_0
        cases e315
        replace hx315_0:=(HB.out.cell (wL_ w _ hx315_0)).trans hx315_0
        replace hx315_1:=(HB.out.cell (wL_ w _ hx315_1)).trans hx315_1
        replace hx315_2:=(HB.out.cell (wL_ w _ hx315_2)).trans hx315_2
        replace hx315_3:=(HB.out.cell (wL_ w _ hx315_3)).trans hx315_3
        have HR315_1:=aM_ hi315_1
        have HC315_1:=aM_ hl315_1
        clear hi315_1 hl315_1
        have HR315_2:=aM_ hi315_2
        have HC315_2:=aM_ hl315_2
        clear hi315_2 hl315_2
        have HR315_3:=aM_ hi315_3
        have HC315_3:=aM_ hl315_3
        clear hi315_3 hl315_3
        replace p315:=eq_true p315
        replace q315:=eq_true q315
        have p316 : 0 ≤ (x5_1 : Int):=oT_ (by first | (with_reducible assumption) | assumption)
        have q316 : x5_1 < (l1.length : Int):=oT_ (by first | (with_reducible assumption) | assumption)
        obtain ⟨ad316,A316_1,c316_1,A316_2,c316_2,A316_3,c316_3,e316,hx316_0,hx316_1,hx316_2,hx316_3,hl316_1,hi316_1,hl316_2,hi316_2,hl316_3,hi316_3⟩:=at_T35 HR1.out x5_1 p316 q316
        have hw316_3:=hx316_3
        have hw316_2:=hx316_2
        have hw316_1:=hx316_1
        have hw316_0:=hx316_0
        cases e316
        replace hx316_0:=(HB.out.cell (wL_ w _ hx316_0)).trans hx316_0
        replace hx316_1:=(HB.out.cell (wL_ w _ hx316_1)).trans hx316_1
        replace hx316_2:=(HB.out.cell (wL_ w _ hx316_2)).trans hx316_2
        replace hx316_3:=(HB.out.cell (wL_ w _ hx316_3)).trans hx316_3
        have HR316_1:=aM_ hi316_1
        have HC316_1:=aM_ hl316_1
        clear hi316_1 hl316_1
        have HR316_2:=aM_ hi316_2
        have HC316_2:=aM_ hl316_2
        clear hi316_2 hl316_2
        have HR316_3:=aM_ hi316_3
        have HC316_3:=aM_ hl316_3
        clear hi316_3 hl316_3
        replace p316:=eq_true p316
        replace q316:=eq_true q316
        refine start_ (n:=10) (S:=fun w'=>w'.cell? (ad315.add ((x5_1).toNat * 4)) = some (.string ((rd_T35 l0 x5_1).f0)) ∧ w'.cell? ⟨(ad315.add ((x5_1).toNat * 4)).block,(ad315.add ((x5_1).toNat * 4)).off + 1,none⟩ = some (.slice A315_1 ((rd_T35 l0 x5_1).f1).length c315_1) ∧ w'.cell? ⟨(ad315.add ((x5_1).toNat * 4)).block,(ad315.add ((x5_1).toNat * 4)).off + 2,none⟩ = some (.slice A315_2 ((rd_T35 l0 x5_1).f2).length c315_2) ∧ w'.cell? ⟨(ad315.add ((x5_1).toNat * 4)).block,(ad315.add ((x5_1).toNat * 4)).off + 3,none⟩ = some (.slice A315_3 ((rd_T35 l0 x5_1).f3).length c315_3) ∧ w'.cell? (ad316.add ((x5_1).toNat * 4)) = some (.string ((rd_T35 l1 x5_1).f0)) ∧ w'.cell? ⟨(ad316.add ((x5_1).toNat * 4)).block,(ad316.add ((x5_1).toNat * 4)).off + 1,none⟩ = some (.slice A316_1 ((rd_T35 l1 x5_1).f1).length c316_1) ∧ w'.cell? ⟨(ad316.add ((x5_1).toNat * 4)).block,(ad316.add ((x5_1).toNat * 4)).off + 2,none⟩ = some (.slice A316_2 ((rd_T35 l1 x5_1).f2).length c316_2) ∧ w'.cell? ⟨(ad316.add ((x5_1).toNat * 4)).block,(ad316.add ((x5_1).toNat * 4)).off + 3,none⟩ = some (.slice A316_3 ((rd_T35 l1 x5_1).f3).length c316_3)) (ds:=[]) (tb_ 0 10) (by kernel_rfl) rfl rfl ⟨((HB.out.cell (wL_ w _ hw315_0)).trans hw315_0),((HB.out.cell (wL_ w _ hw315_1)).trans hw315_1),((HB.out.cell (wL_ w _ hw315_2)).trans hw315_2),((HB.out.cell (wL_ w _ hw315_3)).trans hw315_3),((HB.out.cell (wL_ w _ hw316_0)).trans hw316_0),((HB.out.cell (wL_ w _ hw316_1)).trans hw316_1),((HB.out.cell (wL_ w _ hw316_2)).trans hw316_2),((HB.out.cell (wL_ w _ hw316_3)).trans hw316_3)⟩ (fun hHeld=>?_);refine with_tabW laws_eqDefS.tab6 laws_eqDefS.bits6 (fun HT_ HW_=>?_)
        generalize wr.drew = w11 at HB HR315_1 HR315_2 HR315_3 HR316_1 HR316_2 HR316_3 hx315_0 hx315_1 hx315_2 hx315_3 hx316_0 hx316_1 hx316_2 hx316_3 hHeld ⊢
        refine pure_ (i:=0) (N:=some 17) (v:=?_) (a':=?_) (tb_ 1 9) rfl rfl (any_of HT_.out (by kernel_rfl)) (fun _ _ _ h=>h) (Or.inl ⟨by rfl,?_⟩) ?_ ?_
        rotate_left
        ·intro w'
         go_simp
         with_reducible rfl
        rotate_left
        ·simp only [Act.put,sI_,sZ_,sS_,i64_w,i32_w]
         rfl
        refine pure_ (i:=1) (N:=some 18) (v:=?_) (a':=?_) (tb_ 2 8) rfl rfl (any_of HT_.out (by kernel_rfl)) (fun _ _ _ h=>h) (Or.inl ⟨by rfl,?_⟩) ?_ ?_
        rotate_left
        ·intro w'
         go_simp
         with_reducible rfl
        rotate_left
        ·simp only [Act.put,sI_,sZ_,sS_,i64_w,i32_w]
         rfl
        refine pure_ (i:=2) (N:=some 19) (v:=?_) (a':=?_) (tb_ 3 7) rfl rfl (any_of HT_.out (by kernel_rfl)) (fun _ _ _ h=>h) (Or.inl ⟨by rfl,?_⟩) ?_ ?_
        rotate_left
        ·intro w'
         go_simp
         with_reducible rfl
        rotate_left
        ·simp only [Act.put,sI_,sZ_,sS_,i64_w,i32_w]
         rfl
        refine pure_ (i:=4) (N:=some 21) (v:=?_) (a':=?_) #[true,true,true,false,true,false,false,false,false,false] rfl rfl (any_of HT_.out (by kernel_rfl)) (fun _ _ _ h=>h) (Or.inl ⟨by rfl,?_⟩) ?_ ?_
        rotate_left
        ·intro w'
         go_simp
         with_reducible rfl
        rotate_left
        ·simp only [Act.put,sI_,sZ_,sS_,i64_w,i32_w]
         rfl
        refine pure_ (i:=5) (N:=some 22) (v:=?_) (a':=?_) #[true,true,true,false,true,true,false,false,false,false] rfl rfl (any_of HT_.out (by kernel_rfl)) (fun _ _ _ h=>h) (Or.inl ⟨by rfl,?_⟩) ?_ ?_
        rotate_left
        ·intro w'
         go_simp
         with_reducible rfl
        rotate_left
        ·simp only [Act.put,sI_,sZ_,sS_,i64_w,i32_w]
         rfl
        refine pure_ (i:=6) (N:=some 23) (v:=?_) (a':=?_) #[true,true,true,false,true,true,true,false,false,false] rfl rfl (any_of HT_.out (by kernel_rfl)) (fun _ _ _ h=>h) (Or.inl ⟨by rfl,?_⟩) ?_ ?_
        rotate_left
        ·intro w'
         go_simp
         with_reducible rfl
        rotate_left
        ·simp only [Act.put,sI_,sZ_,sS_,i64_w,i32_w]
         rfl
        refine take_ (i:=3) (N:=some 20) (v:=?_) (a':=?_) (tb_ 7 3) rfl rfl (take_ofW HT_.out HW_.out (by kernel_rfl)) (fun _ _ _ h=>h) (Or.inl ⟨by rfl,?_⟩) hHeld ?_ ?_
        rotate_left
        ·rintro w' ⟨s0,s1,s2,s3,s4,s5,s6,s7⟩
         go_simp
         with_reducible rfl
        rotate_left
        ·simp only [Act.put,sI_,sZ_,sS_,i64_w,i32_w]
         rfl
        refine take_ (i:=7) (N:=some 24) (v:=?_) (a':=?_) (tb_ 8 2) rfl rfl (take_ofW HT_.out HW_.out (by kernel_rfl)) (fun _ _ _ h=>h) (Or.inl ⟨by rfl,?_⟩) hHeld ?_ ?_
        rotate_left
        ·rintro w' ⟨s0,s1,s2,s3,s4,s5,s6,s7⟩
         go_simp
         with_reducible rfl
        rotate_left
        ·simp only [Act.put,sI_,sZ_,sS_,i64_w,i32_w]
         rfl
        refine one_ (i:=8) (N:=some 25) (tb_ 9 1) rfl rfl (one_of HT_.out (by kernel_rfl)) (by decide) (fun K hK=>?_)
        refine goes_ Tryd.func30 (by kernel_rfl) rfl #[.agg #[.string ((rd_T35 l0 x5_1).f0),.slice A315_1 ((rd_T35 l0 x5_1).f1).length c315_1,.slice A315_2 ((rd_T35 l0 x5_1).f2).length c315_2,.slice A315_3 ((rd_T35 l0 x5_1).f3).length c315_3],.agg #[.string ((rd_T35 l1 x5_1).f0),.slice A316_1 ((rd_T35 l1 x5_1).f1).length c316_1,.slice A316_2 ((rd_T35 l1 x5_1).f2).length c316_2,.slice A316_3 ((rd_T35 l1 x5_1).f3).length c316_3]] (by rfl) rfl rfl (by (try simp only [mA_,mC_,mN_]);first | done | rfl | (simp only [lD_,lT_];rfl)) ?_
        with_reducible refine (laws_eqDef.calls k1 ((rd_T35 l0 x5_1).f0) _ _ ((rd_T35 l0 x5_1).f1) _ _ ((rd_T35 l0 x5_1).f2) _ _ ((rd_T35 l0 x5_1).f3) ((rd_T35 l1 x5_1).f0) _ _ ((rd_T35 l1 x5_1).f1) _ _ ((rd_T35 l1 x5_1).f2) _ _ ((rd_T35 l1 x5_1).f3) false _ ?side1 ?side2 ?side3 ?side4 ?side5 ?side6 ?side7 ?side8 ?side9 ?side10 ?side11 ?side12 A7.out).mono ?_
        (case side1=>repeat (first | exact (Kd.C_below HR315_1.out HB.out) | (with_reducible refine cA_ ?_ _) | (with_reducible refine cN_ ?_ _) | (with_reducible refine cD_ ?_)))
        (case side2=>exact HC315_1.out)
        (case side3=>repeat (first | exact (Kd.C_below HR315_2.out HB.out) | (with_reducible refine cA_ ?_ _) | (with_reducible refine cN_ ?_ _) | (with_reducible refine cD_ ?_)))
        (case side4=>exact HC315_2.out)
        (case side5=>repeat (first | exact (Kd.C_below HR315_3.out HB.out) | (with_reducible refine cA_ ?_ _) | (with_reducible refine cN_ ?_ _) | (with_reducible refine cD_ ?_)))
        (case side6=>exact HC315_3.out)
        (case side7=>repeat (first | exact (Kd.C_below HR316_1.out HB.out) | (with_reducible refine cA_ ?_ _) | (with_reducible refine cN_ ?_ _) | (with_reducible refine cD_ ?_)))
        (case side8=>exact HC316_1.out)
        (case side9=>repeat (first | exact (Kd.C_below HR316_2.out HB.out) | (with_reducible refine cA_ ?_ _) | (with_reducible refine cN_ ?_ _) | (with_reducible refine cD_ ?_)))
        (case side10=>exact HC316_2.out)
        (case side11=>repeat (first | exact (Kd.C_below HR316_3.out HB.out) | (with_reducible refine cA_ ?_ _) | (with_reducible refine cN_ ?_ _) | (with_reducible refine cD_ ?_)))
        (case side12=>exact HC316_3.out)
        rintro e w12 ⟨rfl,hb⟩
        refine ⟨_,rfl,?_⟩
        have n0_:=aM_ (bT_ (by exact bZ_ HB) hb)
        clear HB
        have HB:=n0_
        clear n0_
        (try clear hb)
        (try clear hb2)
        (try clear hk)
        (try clear hi)
        refine hK.out _ _ ⟨((HB.out.cell (wL_ w _ hw315_0)).trans hw315_0),((HB.out.cell (wL_ w _ hw315_1)).trans hw315_1),((HB.out.cell (wL_ w _ hw315_2)).trans hw315_2),((HB.out.cell (wL_ w _ hw315_3)).trans hw315_3),((HB.out.cell (wL_ w _ hw316_0)).trans hw316_0),((HB.out.cell (wL_ w _ hw316_1)).trans hw316_1),((HB.out.cell (wL_ w _ hw316_2)).trans hw316_2),((HB.out.cell (wL_ w _ hw316_3)).trans hw316_3)⟩ (fun hHeld=>?_)
        clear hK K
        refine norm_ (a':=?_) ?_ ?_
        rotate_left
        ·show Act.put _ (some 25) _ = _
         simp only [Act.put,sI_,sZ_,sS_,i64_w,i32_w]
         rfl
        refine pure_ (i:=9) (N:=some 26) (v:=?_) (a':=?_) (tb_ 10 0) rfl rfl (any_of HT_.out (by kernel_rfl)) (fun _ _ _ h=>h) (Or.inl ⟨by rfl,?_⟩) ?_ ?_
        rotate_left
        ·intro w'
         go_simp
         with_reducible rfl
        rotate_left
        ·simp only [Act.put,sI_,sZ_,sS_,i64_w,i32_w]
         rfl
        refine done_ (done_of HT_.out (by kernel_rfl)) ?_
        try go_wp2
        go_ret
        exact ⟨by first | rfl | (simp [errW_none,errW_some] <;> rfl) | (simp [*, errW_none,errW_some] <;> rfl),by exact bZ_ HB⟩
      ·rw [if_neg c6] at H
       exact absurd H (by simp)
     ·rw [if_neg c5] at H
      exact absurd H (by simp)
    ·rw [if_neg c4] at H
     have c4b0 : decide (x5_1 < (l0.length : Int)) = false:=decide_eq_false c4
     clear c4
     obtain rfl:=Option.some.inj H
     go_wp2
     go_ret
     exact ⟨by first | rfl | (simp [errW_none,errW_some] <;> rfl) | (simp [*, errW_none,errW_some] <;> rfl),by exact bZ_ HB⟩
 ·rw [if_neg c3] at H
  have c3b0 : ((l0.length : Int) == (l1.length : Int)) = false:=beq_eq_false_iff_ne.mpr c3
  have c3b1 : ((l0.length : Int) != (l1.length : Int)) = true:=bne_iff_ne.mpr c3
  have c3b2 : (l0.length == l1.length) = false:=by first | simpa using c3 | (simp at c3 ⊢;omega)
  obtain rfl:=Option.some.inj H
  go_enter Tryd.func18,Tryd.ntmps18
  go_wp2
  go_ret
  exact ⟨by first | rfl | (simp [errW_none,errW_some] <;> rfl) | (simp [*, errW_none,errW_some] <;> rfl),by exact bZ_ HB⟩
def laws_FnExactFirstBad.f (k : Nat) (l0 : List (S46)) : Option (Bool):=(laws_szDefS.f k l0 1048576).bind fun t318=>(if t318 < 0 then (some true) else ((laws_toDefS.f k l0).bind fun t319=>((spec_FirstBad.f k t319).bind fun t322=>((laws_toDefS.f k l0).bind fun t323=>((impl_FirstBad.f k t323).bind fun t326=>(if t326 = t322 then ((laws_toDefS.f k l0).bind fun t327=>((laws_eqDefS.f k t323 t327).bind fun t330=>(if t330 = true then (some true) else (some false)))) else (some false)))))))
theorem laws_FnExactFirstBad.mono : ∀ a0 k,LeO (laws_FnExactFirstBad.f k a0) (laws_FnExactFirstBad.f (k + 1) a0):=by
 intro a0 k
 unfold laws_FnExactFirstBad.f
 repeat' first
   | (with_reducible exact impl_FirstBad.mono _ _)
   | (with_reducible exact laws_eqDefS.mono _ _ _)
   | (with_reducible exact laws_szDefS.mono _ _ _)
   | (with_reducible exact laws_toDefS.mono _ _)
   | (with_reducible exact spec_FirstBad.mono _ _)
   | (with_reducible exact LeO.refl _)
   | (with_reducible exact LeO.none _)
   | (with_reducible refine LeO.ite ?_ ?_)
   | (with_reducible refine LeO.bind ?_ (fun _=>?_))
   | exact impl_FirstBad.mono _ _
   | exact laws_eqDefS.mono _ _ _
   | exact laws_szDefS.mono _ _ _
   | exact laws_toDefS.mono _ _
   | exact spec_FirstBad.mono _ _
   | exact LeO.none _
   | refine LeO.ite ?_ ?_
   | refine LeO.bind ?_ (fun _=>?_)
set_option maxHeartbeats 8000000 in
set_option maxRecDepth 100000 in
theorem laws_FnExactFirstBad.calls (k : Nat) (A0 : Option Addr) (c0 : Nat) (l0 : List (S46)) (r : Bool) (w : World) (hr0 : Kd.C k46 w A0 l0.length l0) (hc0 : l0.length ≤ c0) (hr_ : Aside0 (r = true)) (h : laws_FnExactFirstBad.f k l0 = some r) :
  Calls Tryd.prog 3 #[.slice A0 l0.length c0] w fun e w'=>e = .returned (.bool r) ∧ Below w.heap.size w w':=by
 have HR0:=aM_ hr0
 have HC0:=aM_ hc0
 clear hr0 hc0
 have HB:=aM_ (Below.refl w.heap.size w)
 have H : ((laws_szDefS.f k l0 1048576).bind fun t318=>(if t318 < 0 then (some true) else ((laws_toDefS.f k l0).bind fun t319=>((spec_FirstBad.f k t319).bind fun t322=>((laws_toDefS.f k l0).bind fun t323=>((impl_FirstBad.f k t323).bind fun t326=>(if t326 = t322 then ((laws_toDefS.f k l0).bind fun t327=>((laws_eqDefS.f k t323 t327).bind fun t330=>(if t330 = true then (some true) else (some false)))) else (some false)))))))) = some r:=h
 clear h
 replace H:=oB_ H
 obtain ⟨t318,A20,H⟩:=H
 replace H : (if t318 < 0 then (some true) else ((laws_toDefS.f k l0).bind fun t319=>((spec_FirstBad.f k t319).bind fun t322=>((laws_toDefS.f k l0).bind fun t323=>((impl_FirstBad.f k t323).bind fun t326=>(if t326 = t322 then ((laws_toDefS.f k l0).bind fun t327=>((laws_eqDefS.f k t323 t327).bind fun t330=>(if t330 = true then (some true) else (some false)))) else (some false))))))) = some r:=H
 have A2:=aM_ A20
 clear A20
 by_cases c3 : t318 < 0
 ·rw [if_pos c3] at H
  have c3b0 : decide (t318 < 0) = true:=decide_eq_true c3
  clear c3
  obtain rfl:=Option.some.inj H
  go_enter Tryd.func3,Tryd.ntmps3
  go_wp2_with (first | ((with_reducible refine gate_callee (f:=14) rfl ?_);refine goesL_ (some 9) rfl rfl Tryd.func14 (by kernel_rfl) rfl #[.slice A0 l0.length c0,.int .i64 1048576] rfl (by (try simp only [mA_,mC_,mN_]);first | done | rfl | (simp only [lD_,lT_];rfl)) ?_;(with_reducible refine (laws_szDefS.calls k _ _ l0 1048576 t318 _ ?side1 ?side2 A2.out).mono ?_);(case side1=>repeat (first | exact HR0.out | (with_reducible refine cA_ ?_ _) | (with_reducible refine cN_ ?_ _) | (with_reducible refine cD_ ?_)));(case side2=>exact HC0.out);rintro e w4 ⟨rfl,hb⟩;refine ⟨_,rfl,?_⟩;have n0_:=aM_ (bT_ (by exact bZ_ HB) hb);clear HB;have HB:=n0_;clear n0_;(try clear hb);(try clear hb2);(try clear hk);(try clear hi)))
  go_ret
  exact ⟨by first | rfl | (simp [errW_none,errW_some] <;> rfl) | (simp [*, errW_none,errW_some] <;> rfl),by exact bZ_ HB⟩
 ·rw [if_neg c3] at H
  have c3b0 : decide (t318 < 0) = false:=decide_eq_false c3
  clear c3
  replace H:=oB_ H
  obtain ⟨t319,A50,H⟩:=H
  replace H : ((spec_FirstBad.f k t319).bind fun t322=>((laws_toDefS.f k l0).bind fun t323=>((impl_FirstBad.f k t323).bind fun t326=>(if t326 = t322 then ((laws_toDefS.f k l0).bind fun t327=>((laws_eqDefS.f k t323 t327).bind fun t330=>(if t330 = true then (some true) else (some false)))) else (some false))))) = some r:=H
  have A5:=aM_ A50
  clear A50
  replace H:=oB_ H
  obtain ⟨t322,A60,H⟩:=H
  replace H : ((laws_toDefS.f k l0).bind fun t323=>((impl_FirstBad.f k t323).bind fun t326=>(if t326 = t322 then ((laws_toDefS.f k l0).bind fun t327=>((laws_eqDefS.f k t323 t327).bind fun t330=>(if t330 = true then (some true) else (some false)))) else (some false)))) = some r:=H
  have A6:=aM_ A60
  clear A60
  replace H:=oB_ H
  obtain ⟨t323,A70,H⟩:=H
  replace H : ((impl_FirstBad.f k t323).bind fun t326=>(if t326 = t322 then ((laws_toDefS.f k l0).bind fun t327=>((laws_eqDefS.f k t323 t327).bind fun t330=>(if t330 = true then (some true) else (some false)))) else (some false))) = some r:=H
  have A7:=aM_ A70
  clear A70
  replace H:=oB_ H
  obtain ⟨t326,A80,H⟩:=H
  replace H : (if t326 = t322 then ((laws_toDefS.f k l0).bind fun t327=>((laws_eqDefS.f k t323 t327).bind fun t330=>(if t330 = true then (some true) else (some false)))) else (some false)) = some r:=H
  have A8:=aM_ A80
  clear A80
  by_cases c9 : t326 = t322
  ·rw [if_pos c9] at H
   have c9b0 : (t326 == t322) = true:=beq_iff_eq.mpr c9
   have c9b1 : (t326 != t322) = false:=bne_eq_false_iff_eq.mpr c9
   clear c9
   replace H:=oB_ H
   obtain ⟨t327,A100,H⟩:=H
   replace H : ((laws_eqDefS.f k t323 t327).bind fun t330=>(if t330 = true then (some true) else (some false))) = some r:=H
   have A10:=aM_ A100
   clear A100
   replace H:=oB_ H
   obtain ⟨t330,A110,H⟩:=H
   replace H : (if t330 = true then (some true) else (some false)) = some r:=H
   have A11:=aM_ A110
   clear A110
   by_cases c12 : t330 = true
   ·subst c12
    have H1 : (some true) = some r:=by rw [if_pos rfl] at H;exact H
    clear H
    have H:=H1
    clear H1
    obtain rfl:=Option.some.inj H
    go_enter Tryd.func3,Tryd.ntmps3
    go_wp2_with (first | ((with_reducible refine gate_callee (f:=14) rfl ?_);refine goesL_ (some 9) rfl rfl Tryd.func14 (by kernel_rfl) rfl #[.slice A0 l0.length c0,.int .i64 1048576] rfl (by (try simp only [mA_,mC_,mN_]);first | done | rfl | (simp only [lD_,lT_];rfl)) ?_;(with_reducible refine (laws_szDefS.calls k _ _ l0 1048576 t318 _ ?side1 ?side2 A2.out).mono ?_);(case side1=>repeat (first | exact HR0.out | (with_reducible refine cA_ ?_ _) | (with_reducible refine cN_ ?_ _) | (with_reducible refine cD_ ?_)));(case side2=>exact HC0.out);rintro e w13 ⟨rfl,hb⟩;refine ⟨_,rfl,?_⟩;have n0_:=aM_ (bT_ (by exact bZ_ HB) hb);clear HB;have HB:=n0_;clear n0_;(try clear hb);(try clear hb2);(try clear hk);(try clear hi)) | ((with_reducible refine gate_callee (f:=16) rfl ?_);refine goesL_ (some 13) rfl rfl Tryd.func16 (by kernel_rfl) rfl #[.slice A0 l0.length c0] rfl (by (try simp only [mA_,mC_,mN_]);first | done | rfl | (simp only [lD_,lT_];rfl)) ?_;(with_reducible refine (laws_toDefS.calls k _ _ l0 t319 _ ?side1 ?side2 A5.out).mono ?_);(case side1=>repeat (first | exact (Kd.C_below HR0.out HB.out) | (with_reducible refine cA_ ?_ _) | (with_reducible refine cN_ ?_ _) | (with_reducible refine cD_ ?_)));(case side2=>exact HC0.out);rintro e w14 ⟨v320,rfl,ho0,hb⟩;refine ⟨_,rfl,?_⟩;have n0_:=aM_ (Kd.R_lower ho0 (bS_ (by exact bZ_ HB)));have n1_:=aM_ (bT_ (by exact bZ_ HB) hb);clear HB;have HO321:=n0_;have HB:=n1_;clear n0_ n1_;(try clear hb);(try clear hb2);(try clear hk);(try clear hi);(try clear ho0);obtain ⟨Ao15,co15,eo15⟩:=Kd.R_slice HO321.out;subst eo15) | ((with_reducible refine gate_callee (f:=15) rfl ?_);refine goesL_ (some 14) rfl rfl Tryd.func15 (by kernel_rfl) rfl #[.slice Ao15 t319.length co15] rfl (by (try simp only [mA_,mC_,mN_]);first | done | rfl | (simp only [lD_,lT_];rfl)) ?_;(with_reducible refine (spec_FirstBad.calls k _ _ t319 t322 _ ?side1 ?side2 A6.out).mono ?_);(case side1=>repeat (first | exact (Kd.R_reads' HO321.out).2.2 | (with_reducible refine cA_ ?_ _) | (with_reducible refine cN_ ?_ _) | (with_reducible refine cD_ ?_)));(case side2=>exact (Kd.R_reads' HO321.out).2.1);rintro e w16 ⟨rfl,hb⟩;refine ⟨_,rfl,?_⟩;have n0_:=aM_ (Kd.R_below (by exact rZ_ HO321) hb);have n1_:=aM_ (bT_ (by exact bZ_ HB) hb);clear HO321;clear HB;have HO321:=n0_;have HB:=n1_;clear n0_ n1_;(try clear hb);(try clear hb2);(try clear hk);(try clear hi)) | ((with_reducible refine gate_callee (f:=16) rfl ?_);refine goesL_ (some 16) rfl rfl Tryd.func16 (by kernel_rfl) rfl #[.slice A0 l0.length c0] rfl (by (try simp only [mA_,mC_,mN_]);first | done | rfl | (simp only [lD_,lT_];rfl)) ?_;(with_reducible refine (laws_toDefS.calls k _ _ l0 t323 _ ?side1 ?side2 A7.out).mono ?_);(case side1=>repeat (first | exact (Kd.C_below HR0.out HB.out) | (with_reducible refine cA_ ?_ _) | (with_reducible refine cN_ ?_ _) | (with_reducible refine cD_ ?_)));(case side2=>exact HC0.out);rintro e w17 ⟨v324,rfl,ho0,hb⟩;refine ⟨_,rfl,?_⟩;have n0_:=aM_ (Kd.R_elder' (by exact rZ_ HO321) (Kd.R_base ho0) hb);have n1_:=aM_ (Kd.R_lower (Kd.R_new' ho0 (Kd.R_lt (by exact rZ_ HO321))) (bS_ (by exact bZ_ HB)));have n2_:=aM_ (bT_ (by exact bZ_ HB) hb);clear HO321;clear HB;have HO321:=n0_;have HO325:=n1_;have HB:=n2_;clear n0_ n1_ n2_;(try clear hb);(try clear hb2);(try clear hk);(try clear hi);(try clear ho0);obtain ⟨Ao18,co18,eo18⟩:=Kd.R_slice HO325.out;subst eo18) | ((with_reducible refine gate_callee (f:=17) rfl ?_);refine goesL_ (some 18) rfl rfl Tryd.func17 (by kernel_rfl) rfl #[.slice Ao18 t323.length co18] rfl (by (try simp only [mA_,mC_,mN_]);first | done | rfl | (simp only [lD_,lT_];rfl)) ?_;(with_reducible refine (impl_FirstBad.calls k _ _ t323 t326 _ ?side1 ?side2 A8.out).mono ?_);(case side1=>repeat (first | exact (Kd.R_reads' HO325.out).2.2 | (with_reducible refine cA_ ?_ _) | (with_reducible refine cN_ ?_ _) | (with_reducible refine cD_ ?_)));(case side2=>exact (Kd.R_reads' HO325.out).2.1);rintro e w19 ⟨rfl,hb⟩;refine ⟨_,rfl,?_⟩;have n0_:=aM_ (Kd.R_below (by exact rZ_ HO321) hb);have n1_:=aM_ (Kd.R_below (by exact rZ_ HO325) hb);have n2_:=aM_ (bT_ (by exact bZ_ HB) hb);clear HO321;clear HO325;clear HB;have HO321:=n0_;have HO325:=n1_;have HB:=n2_;clear n0_ n1_ n2_;(try clear hb);(try clear hb2);(try clear hk);(try clear hi)) | ((with_reducible refine gate_callee (f:=16) rfl ?_);refine goesL_ (some 24) rfl rfl Tryd.func16 (by kernel_rfl) rfl #[.slice A0 l0.length c0] rfl (by (try simp only [mA_,mC_,mN_]);first | done | rfl | (simp only [lD_,lT_];rfl)) ?_;(with_reducible refine (laws_toDefS.calls k _ _ l0 t327 _ ?side1 ?side2 A10.out).mono ?_);(case side1=>repeat (first | exact (Kd.C_below HR0.out HB.out) | (with_reducible refine cA_ ?_ _) | (with_reducible refine cN_ ?_ _) | (with_reducible refine cD_ ?_)));(case side2=>exact HC0.out);rintro e w20 ⟨v328,rfl,ho0,hb⟩;refine ⟨_,rfl,?_⟩;have n0_:=aM_ (Kd.R_elder' (by exact rZ_ HO321) (Kd.R_base ho0) hb);have n1_:=aM_ (Kd.R_elder' (by exact rZ_ HO325) (Kd.R_base ho0) hb);have n2_:=aM_ (Kd.R_lower (Kd.R_new' (Kd.R_new' ho0 (Kd.R_lt (by exact rZ_ HO321))) (Kd.R_lt (by exact rZ_ HO325))) (bS_ (by exact bZ_ HB)));have n3_:=aM_ (bT_ (by exact bZ_ HB) hb);clear HO321;clear HO325;clear HB;have HO321:=n0_;have HO325:=n1_;have HO329:=n2_;have HB:=n3_;clear n0_ n1_ n2_ n3_;(try clear hb);(try clear hb2);(try clear hk);(try clear hi);(try clear ho0);obtain ⟨Ao21,co21,eo21⟩:=Kd.R_slice HO329.out;subst eo21) | ((with_reducible refine gate_callee (f:=18) rfl ?_);refine goesL_ (some 25) rfl rfl Tryd.func18 (by kernel_rfl) rfl #[.slice Ao18 t323.length co18,.slice Ao21 t327.length co21] rfl (by (try simp only [mA_,mC_,mN_]);first | done | rfl | (simp only [lD_,lT_];rfl)) ?_;(with_reducible refine (laws_eqDefS.calls k _ _ t323 _ _ t327 true _ ?side1 ?side2 ?side3 ?side4 A11.out).mono ?_);(case side1=>repeat (first | exact (Kd.R_reads' HO325.out).2.2 | (with_reducible refine cA_ ?_ _) | (with_reducible refine cN_ ?_ _) | (with_reducible refine cD_ ?_)));(case side2=>exact (Kd.R_reads' HO325.out).2.1);(case side3=>repeat (first | exact (Kd.R_reads' HO329.out).2.2 | (with_reducible refine cA_ ?_ _) | (with_reducible refine cN_ ?_ _) | (with_reducible refine cD_ ?_)));(case side4=>exact (Kd.R_reads' HO329.out).2.1);rintro e w22 ⟨rfl,hb⟩;refine ⟨_,rfl,?_⟩;have n0_:=aM_ (Kd.R_below (by exact rZ_ HO321) hb);have n1_:=aM_ (Kd.R_below (by exact rZ_ HO325) hb);have n2_:=aM_ (Kd.R_below (by exact rZ_ HO329) hb);have n3_:=aM_ (bT_ (by exact bZ_ HB) hb);clear HO321;clear HO325;clear HO329;clear HB;have HO321:=n0_;have HO325:=n1_;have HO329:=n2_;have HB:=n3_;clear n0_ n1_ n2_ n3_;(try clear hb);(try clear hb2);(try clear hk);(try clear hi)))
    go_ret
    exact ⟨by first | rfl | (simp [errW_none,errW_some] <;> rfl) | (simp [*, errW_none,errW_some] <;> rfl),by exact bZ_ HB⟩
   ·replace c12:=Bool.eq_false_iff.mpr c12
    subst c12
    have H1 : (some false) = some r:=by rw [if_neg (show ¬ (false = true) by decide)] at H;exact H
    clear H
    have H:=H1
    clear H1
    exact absurd (H.trans (congrArg some hr_.out)) (by simp)
  ·rw [if_neg c9] at H
   have c9b0 : (t326 == t322) = false:=beq_eq_false_iff_ne.mpr c9
   have c9b1 : (t326 != t322) = true:=bne_iff_ne.mpr c9
   exact absurd (H.trans (congrArg some hr_.out)) (by simp)
end Go.Proofs.YtipehkeabnfngaaDoor.PFnExactFirstBad
