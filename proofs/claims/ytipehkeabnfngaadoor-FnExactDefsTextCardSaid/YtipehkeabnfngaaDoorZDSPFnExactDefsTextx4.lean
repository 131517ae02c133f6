import Derived.Test.YtipehkeabnfngaaDoorZDSPFnExactDefsTextx0
import Derived.Test.YtipehkeabnfngaaDoorZDSPFnExactDefsTextx3
namespace Go.Proofs.YtipehkeabnfngaaDoor.PFnExactDefsText
open Go.RowKit Go.Proofs.YtipehkeabnfngaaDoorW.PrintWords Go.Proofs.YtipehkeabnfngaaDoorW.PrintLast Go.Proofs.YtipehkeabnfngaaDoorW.PrintMore Go.Proofs.YtipehkeabnfngaaDoor.Xtra
attribute [local go_sem] max2_int min2_int max_two min_two max_three min_three max_four min_four str_leq str_gtr str_geq setCell_drewN cell_set2 cell_set3   -- for this text's walks alone
set_option linter.unusedVariables false
set_option linter.unusedSimpArgs false
def laws_eqIndexS.l0 : Nat → List (S69) → List (S69) → Int → Option (Bool)
 | 0,_,_,_=>none
 | k + 1,x0,x1,x5=>if x5 < (x0.length : Int) then (if 0 ≤ x5 then (if x5 < (x1.length : Int) then ((laws_eqIndex.f k ((rd_T69 x0 x5).f0) ((rd_T69 x0 x5).f1) ((rd_T69 x0 x5).f2) ((rd_T69 x1 x5).f0) ((rd_T69 x1 x5).f1) ((rd_T69 x1 x5).f2)).bind fun t193=>(if t193 = true then (laws_eqIndexS.l0 k x0 x1 (wrap64 (x5 + 1))) else (some false))) else (none)) else (none)) else (some true)
def laws_eqIndexS.f (k : Nat) (l0 : List (S69)) (l1 : List (S69)) : Option (Bool):=if (l0.length : Int) = (l1.length : Int) then (laws_eqIndexS.l0 k l0 l1 0) else (some false)
theorem laws_eqIndexS.mono_l : ∀ k,(∀ y0 y1 y2,LeO (laws_eqIndexS.l0 k y0 y1 y2) (laws_eqIndexS.l0 (k + 1) y0 y1 y2))
 | 0=>fun _ _ _ r h=>by simp [laws_eqIndexS.l0] at h
 | k + 1=>by
  have ih0:=laws_eqIndexS.mono_l k
  ·intro y0 y1 y2
   unfold laws_eqIndexS.l0
   repeat' first
   | (with_reducible exact ih0 _ _ _)
   | (with_reducible exact laws_eqIndex.mono _ _ _ _ _ _ _)
   | (with_reducible exact LeO.refl _)
   | (with_reducible exact LeO.none _)
   | (with_reducible refine LeO.ite ?_ ?_)
   | (with_reducible refine LeO.bind ?_ (fun _=>?_))
   | exact ih0 _ _ _
   | exact laws_eqIndex.mono _ _ _ _ _ _ _
   | exact LeO.none _
   | refine LeO.ite ?_ ?_
   | refine LeO.bind ?_ (fun _=>?_)
theorem laws_eqIndexS.mono : ∀ a0 a1 k,LeO (laws_eqIndexS.f k a0 a1) (laws_eqIndexS.f (k + 1) a0 a1):=by
 intro a0 a1 k
 have ih0:=laws_eqIndexS.mono_l k
 unfold laws_eqIndexS.f
 repeat' first
   | (with_reducible exact ih0 _ _ _)
   | (with_reducible exact laws_eqIndex.mono _ _ _ _ _ _ _)
   | (with_reducible exact LeO.refl _)
   | (with_reducible exact LeO.none _)
   | (with_reducible refine LeO.ite ?_ ?_)
   | (with_reducible refine LeO.bind ?_ (fun _=>?_))
   | exact ih0 _ _ _
   | exact laws_eqIndex.mono _ _ _ _ _ _ _
   | exact LeO.none _
   | refine LeO.ite ?_ ?_
   | refine LeO.bind ?_ (fun _=>?_)
def laws_eqIndexS.T6 : Bool × List (List Nat × List Nat):=(true,[([],[]),([],[]),([0,1],[0,1]),([2],[2]),([],[]),([],[]),([4,5],[4,5]),([6],[6]),([3,7],[3,7]),([8],[8])])
def laws_eqIndexS.B6 : List Nat:=[0,0,3,7,0,0,48,112,255,511]
theorem laws_eqIndexS.tab6 : rtab .any (opsOf Tryd.f78 6) = laws_eqIndexS.T6:=by kernel_rfl
theorem laws_eqIndexS.bits6 : waitsOk laws_eqIndexS.T6.2 laws_eqIndexS.B6 = true:=by kernel_rfl
set_option maxHeartbeats 8000000 in
set_option maxRecDepth 100000 in
theorem laws_eqIndexS.calls (k : Nat) (A0 : Option Addr) (c0 : Nat) (l0 : List (S69)) (A1 : Option Addr) (c1 : Nat) (l1 : List (S69)) (r : Bool) (w : World) (hr0 : Kd.C k69 w A0 l0.length l0) (hc0 : l0.length ≤ c0) (hr1 : Kd.C k69 w A1 l1.length l1) (hc1 : l1.length ≤ c1) (h : laws_eqIndexS.f k l0 l1 = some r) :
  Calls Tryd.prog 78 #[.slice A0 l0.length c0,.slice A1 l1.length c1] w fun e w'=>e = .returned (.bool r) ∧ Below w.heap.size w w':=by
 have hu69:=Tryd.underlying69
 have HR0:=aM_ hr0
 have HC0:=aM_ hc0
 clear hr0 hc0
 have HR1:=aM_ hr1
 have HC1:=aM_ hc1
 clear hr1 hc1
 have HB:=aM_ (Below.refl w.heap.size w)
 have H : (if (l0.length : Int) = (l1.length : Int) then (laws_eqIndexS.l0 k l0 l1 0) else (some false)) = some r:=h
 clear h
 by_cases c3 : (l0.length : Int) = (l1.length : Int)
 ·rw [if_pos c3] at H
  have c3b0 : ((l0.length : Int) == (l1.length : Int)) = true:=beq_iff_eq.mpr c3
  have c3b1 : ((l0.length : Int) != (l1.length : Int)) = false:=bne_eq_false_iff_eq.mpr c3
  have c3b2 : (l0.length == l1.length) = true:=by first | simpa using c3 | (simp at c3 ⊢;omega)
  clear c3
  have H':=aM_ H
  clear H
  go_enter Tryd.func78,Tryd.ntmps78
  go_wp2
  (try simp only [Act.put,sI_,sS_,sZ_])
  go_loopg [5] k (fun kq v5 w'=>∃ (x5_1 : Int),v5 = .int .i64 x5_1 ∧ Aside0 (laws_eqIndexS.l0 kq l0 l1 x5_1 = some r) ∧ Aside0 (kq ≤ k) ∧ Aside0 (Below w.heap.size w w'))
  case atStart=>exact ⟨(0),(by first | rfl | (simp;done) | (simp [*];done)),H', ⟨Nat.le_refl _⟩,⟨by exact bZ_ HB⟩⟩
  case round =>
   clear H'
   clear c3b0 c3b1 c3b2
   obtain ⟨x5_1,rfl,HA,HK1,HB⟩:=hrel
   cases gk with
   | zero=>exact absurd HA.out (by simp [laws_eqIndexS.l0])
   | succ k1 =>
    have H:=HA.out
    clear HA
    simp only [laws_eqIndexS.l0] at H
    by_cases c4 : x5_1 < (l0.length : Int)
    ·rw [if_pos c4] at H
     have c4b0 : decide (x5_1 < (l0.length : Int)) = true:=decide_eq_true c4
     clear c4
     by_cases c5 : 0 ≤ x5_1
     ·rw [if_pos c5] at H
      have c5b0 : decide (0 ≤ x5_1) = true:=decide_eq_true c5
      clear c5
      by_cases c6 : x5_1 < (l1.length : Int)
      ·rw [if_pos c6] at H
       have c6b0 : decide (x5_1 < (l1.length : Int)) = true:=decide_eq_true c6
       clear c6
       replace H:=oB_ H
       obtain ⟨t193,A70,H⟩:=H
       replace H : (if t193 = true then (laws_eqIndexS.l0 k1 l0 l1 (wrap64 (x5_1 + 1))) else (some false)) = some r:=H
       have A7:=aM_ A70
       clear A70
       by_cases c8 : t193 = true
       ·subst c8
        have H1 : (laws_eqIndexS.l0 k1 l0 l1 (wrap64 (x5_1 + 1))) = some r:=by rw [if_pos rfl] at H;exact H
        clear H
        have H:=H1
        clear H1
        have H':=aM_ H
        clear H
        try go_wp2
        have n0_:=aM_ (bD_ HB.out)
        clear HB
        have HB:=n0_
        clear n0_
        have p191 : 0 ≤ (x5_1 : Int):=oT_ (by first | (with_reducible assumption) | assumption)
        have q191 : x5_1 < (l0.length : Int):=oT_ (by first | (with_reducible assumption) | assumption)
        obtain ⟨ad191,A191_2,c191_2,e191,hx191_0,hx191_1,hx191_2,hl191_2,hi191_2⟩:=at_T69 HR0.out x5_1 p191 q191
        have hw191_2:=hx191_2
        have hw191_1:=hx191_1
        have hw191_0:=hx191_0
        cases e191
        replace hx191_0:=(HB.out.cell (wL_ w _ hx191_0)).trans hx191_0
        replace hx191_1:=(HB.out.cell (wL_ w _ hx191_1)).trans hx191_1
        replace hx191_2:=(HB.out.cell (wL_ w _ hx191_2)).trans hx191_2
        have HR191_2:=aM_ hi191_2
        have HC191_2:=aM_ hl191_2
        clear hi191_2 hl191_2
        replace p191:=eq_true p191
        replace q191:=eq_true q191
        have p192 : 0 ≤ (x5_1 : Int):=oT_ (by first | (with_reducible assumption) | assumption)
        have q192 : x5_1 < (l1.length : Int):=oT_ (by first | (with_reducible assumption) | assumption)
        obtain ⟨ad192,A192_2,c192_2,e192,hx192_0,hx192_1,hx192_2,hl192_2,hi192_2⟩:=at_T69 HR1.out x5_1 p192 q192
        have hw192_2:=hx192_2
        have hw192_1:=hx192_1
        have hw192_0:=hx192_0
        cases e192
        replace hx192_0:=(HB.out.cell (wL_ w _ hx192_0)).trans hx192_0
        replace hx192_1:=(HB.out.cell (wL_ w _ hx192_1)).trans hx192_1
        replace hx192_2:=(HB.out.cell (wL_ w _ hx192_2)).trans hx192_2
        have HR192_2:=aM_ hi192_2
        have HC192_2:=aM_ hl192_2
        clear hi192_2 hl192_2
        replace p192:=eq_true p192
        replace q192:=eq_true q192
        refine start_ (n:=10) (S:=fun w'=>w'.cell? (ad191.add ((x5_1).toNat * 3)) = some (.string ((rd_T69 l0 x5_1).f0)) ∧ w'.cell? ⟨(ad191.add ((x5_1).toNat * 3)).block,(ad191.add ((x5_1).toNat * 3)).off + 1,none⟩ = some (.bool ((rd_T69 l0 x5_1).f1)) ∧ w'.cell? ⟨(ad191.add ((x5_1).toNat * 3)).block,(ad191.add ((x5_1).toNat * 3)).off + 2,none⟩ = some (.slice A191_2 ((rd_T69 l0 x5_1).f2).length c191_2) ∧ w'.cell? (ad192.add ((x5_1).toNat * 3)) = some (.string ((rd_T69 l1 x5_1).f0)) ∧ w'.cell? ⟨(ad192.add ((x5_1).toNat * 3)).block,(ad192.add ((x5_1).toNat * 3)).off + 1,none⟩ = some (.bool ((rd_T69 l1 x5_1).f1)) ∧ w'.cell? ⟨(ad192.add ((x5_1).toNat * 3)).block,(ad192.add ((x5_1).toNat * 3)).off + 2,none⟩ = some (.slice A192_2 ((rd_T69 l1 x5_1).f2).length c192_2)) (ds:=[]) (tb_ 0 10) (by kernel_rfl) rfl rfl ⟨((HB.out.cell (wL_ w _ hw191_0)).trans hw191_0),((HB.out.cell (wL_ w _ hw191_1)).trans hw191_1),((HB.out.cell (wL_ w _ hw191_2)).trans hw191_2),((HB.out.cell (wL_ w _ hw192_0)).trans hw192_0),((HB.out.cell (wL_ w _ hw192_1)).trans hw192_1),((HB.out.cell (wL_ w _ hw192_2)).trans hw192_2)⟩ (fun hHeld=>?_);refine with_tabW laws_eqIndexS.tab6 laws_eqIndexS.bits6 (fun HT_ HW_=>?_)
        generalize wr.drew = w9 at HB HR191_2 HR192_2 hx191_0 hx191_1 hx191_2 hx192_0 hx192_1 hx192_2 hHeld ⊢
        refine pure_ (i:=0) (N:=some 17) (v:=?_) (a':=?_) (tb_ 1 9) rfl rfl (any_of HT_.out (by kernel_rfl)) (fun _ _ _ h=>h) (Or.inl ⟨by rfl,?_⟩) ?_ ?_
        rotate_left
        ·intro w'
         go_simp
         with_reducible rfl
        rotate_left
        ·simp only [Act.put,sI_,sZ_,sS_,i64_w,i32_w]
         rfl
        refine pure_ (i:=1) (N:=some 18) (v:=?_) (a':=?_) (tb_ 2 8) rfl rfl (any_of HT_.out (by kernel_rfl)) (fun _ _ _ h=>h) (Or.inl ⟨by rfl,?_⟩) ?_ ?_
        rotate_left
        ·intro w'
         go_simp
         with_reducible rfl
        rotate_left
        ·simp only [Act.put,sI_,sZ_,sS_,i64_w,i32_w]
         rfl
        refine pure_ (i:=2) (N:=some 19) (v:=?_) (a':=?_) (tb_ 3 7) rfl rfl (any_of HT_.out (by kernel_rfl)) (fun _ _ _ h=>h) (Or.inl ⟨by rfl,?_⟩) ?_ ?_
        rotate_left
        ·intro w'
         go_simp
         with_reducible rfl
        rotate_left
        ·simp only [Act.put,sI_,sZ_,sS_,i64_w,i32_w]
         rfl
        refine pure_ (i:=4) (N:=some 21) (v:=?_) (a':=?_) #[true,true,true,false,true,false,false,false,false,false] rfl rfl (any_of HT_.out (by kernel_rfl)) (fun _ _ _ h=>h) (Or.inl ⟨by rfl,?_⟩) ?_ ?_
        rotate_left
        ·intro w'
         go_simp
         with_reducible rfl
        rotate_left
        ·simp only [Act.put,sI_,sZ_,sS_,i64_w,i32_w]
         rfl
        refine pure_ (i:=5) (N:=some 22) (v:=?_) (a':=?_) #[true,true,true,false,true,true,false,false,false,false] rfl rfl (any_of HT_.out (by kernel_rfl)) (fun _ _ _ h=>h) (Or.inl ⟨by rfl,?_⟩) ?_ ?_
        rotate_left
        ·intro w'
         go_simp
         with_reducible rfl
        rotate_left
        ·simp only [Act.put,sI_,sZ_,sS_,i64_w,i32_w]
         rfl
        refine pure_ (i:=6) (N:=some 23) (v:=?_) (a':=?_) #[true,true,true,false,true,true,true,false,false,false] rfl rfl (any_of HT_.out (by kernel_rfl)) (fun _ _ _ h=>h) (Or.inl ⟨by rfl,?_⟩) ?_ ?_
        rotate_left
        ·intro w'
         go_simp
         with_reducible rfl
        rotate_left
        ·simp only [Act.put,sI_,sZ_,sS_,i64_w,i32_w]
         rfl
        refine take_ (i:=3) (N:=some 20) (v:=?_) (a':=?_) (tb_ 7 3) rfl rfl (take_ofW HT_.out HW_.out (by kernel_rfl)) (fun _ _ _ h=>h) (Or.inl ⟨by rfl,?_⟩) hHeld ?_ ?_
        rotate_left
        ·rintro w' ⟨s0,s1,s2,s3,s4,s5⟩
         go_simp
         with_reducible rfl
        rotate_left
        ·simp only [Act.put,sI_,sZ_,sS_,i64_w,i32_w]
         rfl
        refine take_ (i:=7) (N:=some 24) (v:=?_) (a':=?_) (tb_ 8 2) rfl rfl (take_ofW HT_.out HW_.out (by kernel_rfl)) (fun _ _ _ h=>h) (Or.inl ⟨by rfl,?_⟩) hHeld ?_ ?_
        rotate_left
        ·rintro w' ⟨s0,s1,s2,s3,s4,s5⟩
         go_simp
         with_reducible rfl
        rotate_left
        ·simp only [Act.put,sI_,sZ_,sS_,i64_w,i32_w]
         rfl
        refine one_ (i:=8) (N:=some 25) (tb_ 9 1) rfl rfl (one_of HT_.out (by kernel_rfl)) (by decide) (fun K hK=>?_)
        refine goes_ Tryd.func119 (by kernel_rfl) rfl #[.agg #[.string ((rd_T69 l0 x5_1).f0),.bool ((rd_T69 l0 x5_1).f1),.slice A191_2 ((rd_T69 l0 x5_1).f2).length c191_2],.agg #[.string ((rd_T69 l1 x5_1).f0),.bool ((rd_T69 l1 x5_1).f1),.slice A192_2 ((rd_T69 l1 x5_1).f2).length c192_2]] (by rfl) rfl rfl (by (try simp only [mA_,mC_,mN_]);first | done | rfl | (simp only [lD_,lT_];rfl)) ?_
        with_reducible refine (laws_eqIndex.calls k1 ((rd_T69 l0 x5_1).f0) ((rd_T69 l0 x5_1).f1) _ _ ((rd_T69 l0 x5_1).f2) ((rd_T69 l1 x5_1).f0) ((rd_T69 l1 x5_1).f1) _ _ ((rd_T69 l1 x5_1).f2) true _ ?side1 ?side2 ?side3 ?side4 A7.out).mono ?_
        (case side1=>exact cZ_ HR191_2 HB)
        (case side2=>exact HC191_2.out)
        (case side3=>exact cZ_ HR192_2 HB)
        (case side4=>exact HC192_2.out)
        rintro e w10 ⟨rfl,hb⟩
        refine ⟨_,rfl,?_⟩
        have n0_:=aM_ (bT_ (by exact bZ_ HB) hb)
        clear HB
        have HB:=n0_
        clear n0_ hb
        skip
        skip
        skip
        refine hK.out _ _ ⟨((HB.out.cell (wL_ w _ hw191_0)).trans hw191_0),((HB.out.cell (wL_ w _ hw191_1)).trans hw191_1),((HB.out.cell (wL_ w _ hw191_2)).trans hw191_2),((HB.out.cell (wL_ w _ hw192_0)).trans hw192_0),((HB.out.cell (wL_ w _ hw192_1)).trans hw192_1),((HB.out.cell (wL_ w _ hw192_2)).trans hw192_2)⟩ (fun hHeld=>?_)
        clear hK K
        refine norm_ (a':=?_) ?_ ?_
        rotate_left
        ·show Act.put _ (some 25) _ = _
         simp only [Act.put,sI_,sZ_,sS_,i64_w,i32_w]
         rfl
        refine pure_ (i:=9) (N:=some 26) (v:=?_) (a':=?_) (tb_ 10 0) rfl rfl (any_of HT_.out (by kernel_rfl)) (fun _ _ _ h=>h) (Or.inl ⟨by rfl,?_⟩) ?_ ?_
        rotate_left
        ·intro w'
         go_simp
         with_reducible rfl
        rotate_left
        ·simp only [Act.put,sI_,sZ_,sS_,i64_w,i32_w]
         rfl
        refine done_ (done_of HT_.out (by kernel_rfl)) ?_
        try go_wp2
        go_roundg k1
        case measure=>have:=HK1.out;omega
        case rel=>exact ⟨(wrap64 (x5_1 + 1)),(by first | rfl | (simp;done) | (simp [*];done)),H', ⟨by have:=HK1.out;omega⟩,⟨by exact bZ_ HB⟩⟩
       ·replace c8:=Bool.eq_false_iff.mpr c8
        subst c8
        have H1 : (some false) = some r:=by rw [if_neg (show ¬ (false = true) by decide)] at H;exact H
        clear H
        have H:=H1
        clear H1
        obtain rfl:=Option.some.inj H
        try go_wp2
        have n0_:=aM_ (bD_ HB.out)
        clear HB
        have HB:=n0_
        clear n0_
        have p191 : 0 ≤ (x5_1 : Int):=oT_ (by first | (with_reducible assumption) | assumption)
        have q191 : x5_1 < (l0.length : Int):=oT_ (by first | (with_reducible assumption) | assumption)
        obtain ⟨ad191,A191_2,c191_2,e191,hx191_0,hx191_1,hx191_2,hl191_2,hi191_2⟩:=at_T69 HR0.out x5_1 p191 q191
        have hw191_2:=hx191_2
        have hw191_1:=hx191_1
        have hw191_0:=hx191_0
        cases e191
        replace hx191_0:=(HB.out.cell (wL_ w _ hx191_0)).trans hx191_0
        replace hx191_1:=(HB.out.cell (wL_ w _ hx191_1)).trans hx191_1
        replace hx191_2:=(HB.out.cell (wL_ w _ hx191_2)).trans hx191_2
        have HR191_2:=aM_ hi191_2
        have HC191_2:=aM_ hl191_2
        clear hi191_2 hl191_2
        replace p191:=eq_true p191
        replace q191:=eq_true q191
        have p192 : 0 ≤ (x5_1 : Int):=oT_ (by first | (with_reducible assumption) | assumption)
        have q192 : x5_1 < (l1.length : Int):=oT_ (by first | (with_reducible assumption) | assumption)
        obtain ⟨ad192,A192_2,c192_2,e192,hx192_0,hx192_1,hx192_2,hl192_2,hi192_2⟩:=at_T69 HR1.out x5_1 p192 q192
        have hw192_2:=hx192_2
        have hw192_1:=hx192_1
        have hw192_0:=hx192_0
        cases e192
        replace hx192_0:=(HB.out.cell (wL_ w _ hx192_0)).trans hx192_0
        replace hx192_1:=(HB.out.cell (wL_ w _ hx192_1)).trans hx192_1
        replace hx192_2:=(HB.out.cell (wL_ w _ hx192_2)).trans hx192_2
        have HR192_2:=aM_ hi192_2
        have HC192_2:=aM_ hl192_2
        clear hi192_2 hl192_2
        replace p192:=eq_true p192
        replace q192:=eq_true q192
        refine start_ (n:=10) (S:=fun w'=>w'.cell? (ad191.add ((x5_1).toNat * 3)) = some (.string ((rd_T69 l0 x5_1).f0)) ∧ w'.cell? ⟨(ad191.add ((x5_1).toNat * 3)).block,(ad191.add ((x5_1).toNat * 3)).off + 1,none⟩ = some (.bool ((rd_T69 l0 x5_1).f1)) ∧ w'.cell? ⟨(ad191.add ((x5_1).toNat * 3)).block,(ad191.add ((x5_1).toNat * 3)).off + 2,none⟩ = some (.slice A191_2 ((rd_T69 l0 x5_1).f2).length c191_2) ∧ w'.cell? (ad192.add ((x5_1).toNat * 3)) = some (.string ((rd_T69 l1 x5_1).f0)) ∧ w'.cell? ⟨(ad192.add ((x5_1).toNat * 3)).block,(ad192.add ((x5_1).toNat * 3)).off + 1,none⟩ = some (.bool ((rd_T69 l1 x5_1).f1)) ∧ w'.cell? ⟨(ad192.add ((x5_1).toNat * 3)).block,(ad192.add ((x5_1).toNat * 3)).off + 2,none⟩ = some (.slice A192_2 ((rd_T69 l1 x5_1).f2).length c192_2)) (ds:=[]) (tb_ 0 10) (by kernel_rfl) rfl rfl ⟨((HB.out.cell (wL_ w _ hw191_0)).trans hw191_0),((HB.out.cell (wL_ w _ hw191_1)).trans hw191_1),((HB.out.cell (wL_ w _ hw191_2)).trans hw191_2),((HB.out.cell (wL_ w _ hw192_0)).trans hw192_0),((HB.out.cell (wL_ w _ hw192_1)).trans hw192_1),((HB.out.cell (wL_ w _ hw192_2)).trans hw192_2)⟩ (fun hHeld=>?_);refine with_tabW laws_eqIndexS.tab6 laws_eqIndexS.bits6 (fun HT_ HW_=>?_)
        generalize wr.drew = w11 at HB HR191_2 HR192_2 hx191_0 hx191_1 hx191_2 hx192_0 hx192_1 hx192_2 hHeld ⊢
        refine pure_ (i:=0) (N:=some 17) (v:=?_) (a':=?_) (tb_ 1 9) rfl rfl (any_of HT_.out (by kernel_rfl)) (fun _ _ _ h=>h) (Or.inl ⟨by rfl,?_⟩) ?_ ?_
        rotate_left
        ·intro w'
         go_simp
         with_reducible rfl
        rotate_left
        ·simp only [Act.put,sI_,sZ_,sS_,i64_w,i32_w]
         rfl
        refine pure_ (i:=1) (N:=some 18) (v:=?_) (a':=?_) (tb_ 2 8) rfl rfl (any_of HT_.out (by kernel_rfl)) (fun _ _ _ h=>h) (Or.inl ⟨by rfl,?_⟩) ?_ ?_
        rotate_left
        ·intro w'
         go_simp
         with_reducible rfl
        rotate_left
        ·simp only [Act.put,sI_,sZ_,sS_,i64_w,i32_w]
         rfl
        refine pure_ (i:=2) (N:=some 19) (v:=?_) (a':=?_) (tb_ 3 7) rfl rfl (any_of HT_.out (by kernel_rfl)) (fun _ _ _ h=>h) (Or.inl ⟨by rfl,?_⟩) ?_ ?_
        rotate_left
        ·intro w'
         go_simp
         with_reducible rfl
        rotate_left
        ·simp only [Act.put,sI_,sZ_,sS_,i64_w,i32_w]
         rfl
        refine pure_ (i:=4) (N:=some 21) (v:=?_) (a':=?_) #[true,true,true,false,true,false,false,false,false,false] rfl rfl (any_of HT_.out (by kernel_rfl)) (fun _ _ _ h=>h) (Or.inl ⟨by rfl,?_⟩) ?_ ?_
        rotate_left
        ·intro w'
         go_simp
         with_reducible rfl
        rotate_left
        ·simp only [Act.put,sI_,sZ_,sS_,i64_w,i32_w]
         rfl
        refine pure_ (i:=5) (N:=some 22) (v:=?_) (a':=?_) #[true,true,true,false,true,true,false,false,false,false] rfl rfl (any_of HT_.out (by kernel_rfl)) (fun _ _ _ h=>h) (Or.inl ⟨by rfl,?_⟩) ?_ ?_
        rotate_left
        ·intro w'
         go_simp
         with_reducible rfl
        rotate_left
        ·simp only [Act.put,sI_,sZ_,sS_,i64_w,i32_w]
         rfl
        refine pure_ (i:=6) (N:=some 23) (v:=?_) (a':=?_) #[true,true,true,false,true,true,true,false,false,false] rfl rfl (any_of HT_.out (by kernel_rfl)) (fun _ _ _ h=>h) (Or.inl ⟨by rfl,?_⟩) ?_ ?_
        rotate_left
        ·intro w'
         go_simp
         with_reducible rfl
        rotate_left
        ·simp only [Act.put,sI_,sZ_,sS_,i64_w,i32_w]
         rfl
        refine take_ (i:=3) (N:=some 20) (v:=?_) (a':=?_) (tb_ 7 3) rfl rfl (take_ofW HT_.out HW_.out (by kernel_rfl)) (fun _ _ _ h=>h) (Or.inl ⟨by rfl,?_⟩) hHeld ?_ ?_
        rotate_left
        ·rintro w' ⟨s0,s1,s2,s3,s4,s5⟩
         go_simp
         with_reducible rfl
        rotate_left
        ·simp only [Act.put,sI_,sZ_,sS_,i64_w,i32_w]
         rfl
        refine take_ (i:=7) (N:=some 24) (v:=?_) (a':=?_) (tb_ 8 2) rfl rfl (take_ofW HT_.out HW_.out (by kernel_rfl)) (fun _ _ _ h=>h) (Or.inl ⟨by rfl,?_⟩) hHeld ?_ ?_
        rotate_left
        ·rintro w' ⟨s0,s1,s2,s3,s4,s5⟩
         go_simp
         with_reducible rfl
        rotate_left
        ·simp only [Act.put,sI_,sZ_,sS_,i64_w,i32_w]
         rfl
        refine one_ (i:=8) (N:=some 25) (tb_ 9 1) rfl rfl (one_of HT_.out (by kernel_rfl)) (by decide) (fun K hK=>?_)
        refine goes_ Tryd.func119 (by kernel_rfl) rfl #[.agg #[.string ((rd_T69 l0 x5_1).f0),.bool ((rd_T69 l0 x5_1).f1),.slice A191_2 ((rd_T69 l0 x5_1).f2).length c191_2],.agg #[.string ((rd_T69 l1 x5_1).f0),.bool ((rd_T69 l1 x5_1).f1),.slice A192_2 ((rd_T69 l1 x5_1).f2).length c192_2]] (by rfl) rfl rfl (by (try simp only [mA_,mC_,mN_]);first | done | rfl | (simp only [lD_,lT_];rfl)) ?_
        with_reducible refine (laws_eqIndex.calls k1 ((rd_T69 l0 x5_1).f0) ((rd_T69 l0 x5_1).f1) _ _ ((rd_T69 l0 x5_1).f2) ((rd_T69 l1 x5_1).f0) ((rd_T69 l1 x5_1).f1) _ _ ((rd_T69 l1 x5_1).f2) false _ ?side1 ?side2 ?side3 ?side4 A7.out).mono ?_
        (case side1=>exact cZ_ HR191_2 HB)
        (case side2=>exact HC191_2.out)
        (case side3=>exact cZ_ HR192_2 HB)
        (case side4=>exact HC192_2.out)
        rintro e w12 ⟨rfl,hb⟩
        refine ⟨_,rfl,?_⟩
        have n0_:=aM_ (bT_ (by exact bZ_ HB) hb)
        clear HB
        have HB:=n0_
        clear n0_ hb
        skip
        skip
        skip
        refine hK.out _ _ ⟨((HB.out.cell (wL_ w _ hw191_0)).trans hw191_0),((HB.out.cell (wL_ w _ hw191_1)).trans hw191_1),((HB.out.cell (wL_ w _ hw191_2)).trans hw191_2),((HB.out.cell (wL_ w _ hw192_0)).trans hw192_0),((HB.out.cell (wL_ w _ hw192_1)).trans hw192_1),((HB.out.cell (wL_ w _ hw192_2)).trans hw192_2)⟩ (fun hHeld=>?_)
        clear hK K
        refine norm_ (a':=?_) ?_ ?_
        rotate_left
        ·show Act.put _ (some 25) _ = _
         simp only [Act.put,sI_,sZ_,sS_,i64_w,i32_w]
         rfl
        refine pure_ (i:=9) (N:=some 26) (v:=?_) (a':=?_) (tb_ 10 0) rfl rfl (any_of HT_.out (by kernel_rfl)) (fun _ _ _ h=>h) (Or.inl ⟨by rfl,?_⟩) ?_ ?_
        rotate_left
        ·intro w'
         go_simp
         with_reducible rfl
        rotate_left
        ·simp only [Act.put,sI_,sZ_,sS_,i64_w,i32_w]
         rfl
        refine done_ (done_of HT_.out (by kernel_rfl)) ?_
        try go_wp2
        go_ret
        exact ⟨by first | rfl | (simp [errW_none,errW_some] <;> rfl) | (simp [*, errW_none,errW_some] <;> rfl),by exact bZ_ HB⟩
      ·rw [if_neg c6] at H
       exact absurd H (by simp)
     ·rw [if_neg c5] at H
      exact absurd H (by simp)
    ·rw [if_neg c4] at H
     have c4b0 : decide (x5_1 < (l0.length : Int)) = false:=decide_eq_false c4
     clear c4
     obtain rfl:=Option.some.inj H
     go_wp2
     go_ret
     exact ⟨by first | rfl | (simp [errW_none,errW_some] <;> rfl) | (simp [*, errW_none,errW_some] <;> rfl),by exact bZ_ HB⟩
 ·rw [if_neg c3] at H
  have c3b0 : ((l0.length : Int) == (l1.length : Int)) = false:=beq_eq_false_iff_ne.mpr c3
  have c3b1 : ((l0.length : Int) != (l1.length : Int)) = true:=bne_iff_ne.mpr c3
  have c3b2 : (l0.length == l1.length) = false:=by first | simpa using c3 | (simp at c3 ⊢;omega)
  obtain rfl:=Option.some.inj H
  go_enter Tryd.func78,Tryd.ntmps78
  go_wp2
  go_ret
  exact ⟨by first | rfl | (simp [errW_none,errW_some] <;> rfl) | (simp [*, errW_none,errW_some] <;> rfl),by exact bZ_ HB⟩
def laws_eqDef.f (k : Nat) (a0_0 : ByteArray) (l0_1 : List (S82)) (l0_2 : List (S85)) (l0_3 : List (S69)) (a1_0 : ByteArray) (l1_1 : List (S82)) (l1_2 : List (S85)) (l1_3 : List (S69)) : Option (Bool):=if a0_0.toList = a1_0.toList then ((laws_eqColS.f k l0_1 l1_1).bind fun t196=>(if t196 = true then ((laws_eqByS.f k l0_2 l1_2).bind fun t197=>(if t197 = true then ((laws_eqIndexS.f k l0_3 l1_3).bind fun t198=>(if t198 = true then (some true) else (some false))) else (some false))) else (some false))) else (some false)
theorem laws_eqDef.mono : ∀ a0 a1 a2 a3 a4 a5 a6 a7 k,LeO (laws_eqDef.f k a0 a1 a2 a3 a4 a5 a6 a7) (laws_eqDef.f (k + 1) a0 a1 a2 a3 a4 a5 a6 a7):=by
 intro a0 a1 a2 a3 a4 a5 a6 a7 k
 unfold laws_eqDef.f
 repeat' first
   | (with_reducible exact laws_eqByS.mono _ _ _)
   | (with_reducible exact laws_eqColS.mono _ _ _)
   | (with_reducible exact laws_eqIndexS.mono _ _ _)
   | (with_reducible exact LeO.refl _)
   | (with_reducible exact LeO.none _)
   | (with_reducible refine LeO.ite ?_ ?_)
   | (with_reducible refine LeO.bind ?_ (fun _=>?_))
   | exact laws_eqByS.mono _ _ _
   | exact laws_eqColS.mono _ _ _
   | exact laws_eqIndexS.mono _ _ _
   | exact LeO.none _
   | refine LeO.ite ?_ ?_
   | refine LeO.bind ?_ (fun _=>?_)
set_option maxHeartbeats 8000000 in
set_option maxRecDepth 100000 in
theorem laws_eqDef.calls (k : Nat) (a0_0 : ByteArray) (A0_1 : Option Addr) (c0_1 : Nat) (l0_1 : List (S82)) (A0_2 : Option Addr) (c0_2 : Nat) (l0_2 : List (S85)) (A0_3 : Option Addr) (c0_3 : Nat) (l0_3 : List (S69)) (a1_0 : ByteArray) (A1_1 : Option Addr) (c1_1 : Nat) (l1_1 : List (S82)) (A1_2 : Option Addr) (c1_2 : Nat) (l1_2 : List (S85)) (A1_3 : Option Addr) (c1_3 : Nat) (l1_3 : List (S69)) (r : Bool) (w : World) (hr0_1 : Kd.C k82 w A0_1 l0_1.length l0_1) (hc0_1 : l0_1.length ≤ c0_1) (hr0_2 : Kd.C k85 w A0_2 l0_2.length l0_2) (hc0_2 : l0_2.length ≤ c0_2) (hr0_3 : Kd.C k69 w A0_3 l0_3.length l0_3) (hc0_3 : l0_3.length ≤ c0_3) (hr1_1 : Kd.C k82 w A1_1 l1_1.length l1_1) (hc1_1 : l1_1.length ≤ c1_1) (hr1_2 : Kd.C k85 w A1_2 l1_2.length l1_2) (hc1_2 : l1_2.length ≤ c1_2) (hr1_3 : Kd.C k69 w A1_3 l1_3.length l1_3) (hc1_3 : l1_3.length ≤ c1_3) (h : laws_eqDef.f k a0_0 l0_1 l0_2 l0_3 a1_0 l1_1 l1_2 l1_3 = some r) :
  Calls Tryd.prog 30 #[.agg #[.string a0_0,.slice A0_1 l0_1.length c0_1,.slice A0_2 l0_2.length c0_2,.slice A0_3 l0_3.length c0_3],.agg #[.string a1_0,.slice A1_1 l1_1.length c1_1,.slice A1_2 l1_2.length c1_2,.slice A1_3 l1_3.length c1_3]] w fun e w'=>e = .returned (.bool r) ∧ Below w.heap.size w w':=by
 have hu35:=Tryd.underlying35
 have HR0_1:=aM_ hr0_1
 have HC0_1:=aM_ hc0_1
 clear hr0_1 hc0_1
 have HR0_2:=aM_ hr0_2
 have HC0_2:=aM_ hc0_2
 clear hr0_2 hc0_2
 have HR0_3:=aM_ hr0_3
 have HC0_3:=aM_ hc0_3
 clear hr0_3 hc0_3
 have HR1_1:=aM_ hr1_1
 have HC1_1:=aM_ hc1_1
 clear hr1_1 hc1_1
 have HR1_2:=aM_ hr1_2
 have HC1_2:=aM_ hc1_2
 clear hr1_2 hc1_2
 have HR1_3:=aM_ hr1_3
 have HC1_3:=aM_ hc1_3
 clear hr1_3 hc1_3
 have HB:=aM_ (Below.refl w.heap.size w)
 have H : (if a0_0.toList = a1_0.toList then ((laws_eqColS.f k l0_1 l1_1).bind fun t196=>(if t196 = true then ((laws_eqByS.f k l0_2 l1_2).bind fun t197=>(if t197 = true then ((laws_eqIndexS.f k l0_3 l1_3).bind fun t198=>(if t198 = true then (some true) else (some false))) else (some false))) else (some false))) else (some false)) = some r:=h
 clear h
 by_cases c3 : a0_0.toList = a1_0.toList
 ·rw [if_pos c3] at H
  have c3b0 : (a0_0.toList == a1_0.toList) = true:=beq_iff_eq.mpr c3
  have c3b1 : (a0_0.toList != a1_0.toList) = false:=bne_eq_false_iff_eq.mpr c3
  clear c3
  replace H:=oB_ H
  obtain ⟨t196,A40,H⟩:=H
  replace H : (if t196 = true then ((laws_eqByS.f k l0_2 l1_2).bind fun t197=>(if t197 = true then ((laws_eqIndexS.f k l0_3 l1_3).bind fun t198=>(if t198 = true then (some true) else (some false))) else (some false))) else (some false)) = some r:=H
  have A4:=aM_ A40
  clear A40
  by_cases c5 : t196 = true
  ·subst c5
   have H1 : ((laws_eqByS.f k l0_2 l1_2).bind fun t197=>(if t197 = true then ((laws_eqIndexS.f k l0_3 l1_3).bind fun t198=>(if t198 = true then (some true) else (some false))) else (some false))) = some r:=by rw [if_pos rfl] at H;exact H
   clear H
   have H:=H1
   clear H1
   replace H:=oB_ H
   obtain ⟨t197,A60,H⟩:=H
   replace H : (if t197 = true then ((laws_eqIndexS.f k l0_3 l1_3).bind fun t198=>(if t198 = true then (some true) else (some false))) else (some false)) = some r:=H
   have A6:=aM_ A60
   clear A60
   by_cases c7 : t197 = true
   ·subst c7
    have H1 : ((laws_eqIndexS.f k l0_3 l1_3).bind fun t198=>(if t198 = true then (some true) else (some false))) = some r:=by rw [if_pos rfl] at H;exact H
    clear H
    have H:=H1
    clear H1
    replace H:=oB_ H
    obtain ⟨t198,A80,H⟩:=H
    replace H : (if t198 = true then (some true) else (some false)) = some r:=H
    have A8:=aM_ A80
    clear A80
    by_cases c9 : t198 = true
    ·subst c9
     have H1 : (some true) = some r:=by rw [if_pos rfl] at H;exact H
     clear H
     have H:=H1
     clear H1
     obtain rfl:=Option.some.inj H
     go_enter Tryd.func30,Tryd.ntmps30
     go_wp2_with (first | ((with_reducible refine gate_dst (N:=2) rfl ?_);refine box_event ?hg (N:=2) ?hd (cs:=#[.string a0_0,.slice A0_1 l0_1.length c0_1,.slice A0_2 l0_2.length c0_2,.slice A0_3 l0_3.length c0_3]) (t:=35) ?hr ?_;(case hd=>rfl);(case hg=>rfl);(case hr=>first | (go_simp;done) | (go_simp;rfl));intro gb194 hg w10 hbox hb;have n0_:=aM_ (bT_ (by exact bZ_ HB) hb);have n1_:=aM_ (hbox);have n2_:=aM_ ((by rw [hg];exact (bS_ (by exact bZ_ HB)) : w.heap.size ≤ gb194));have n3_:=aM_ ((by rw [hg];exact (bS_ (by exact bZ_ HB)) : w.heap.size ≤ gb194));clear HB;have HB:=n0_;have BK194:=n1_;have GW194:=n2_;have GE194:=n3_;clear n0_ n1_ n2_ n3_ hb hbox hg) | ((with_reducible refine gate_dst (N:=3) rfl ?_);refine box_event ?hg (N:=3) ?hd (cs:=#[.string a1_0,.slice A1_1 l1_1.length c1_1,.slice A1_2 l1_2.length c1_2,.slice A1_3 l1_3.length c1_3]) (t:=35) ?hr ?_;(case hd=>rfl);(case hg=>rfl);(case hr=>first | (go_simp;done) | (go_simp;rfl));intro gb195 hg w11 hbox hb;have n0_:=aM_ (blk_below (g:=gb194) (o:=.cells #[.string a0_0,.slice A0_1 l0_1.length c0_1,.slice A0_2 l0_2.length c0_2,.slice A0_3 l0_3.length c0_3] 35 (0,0)) (by exact kZ_ BK194) hb);have n1_:=aM_ (bT_ (by exact bZ_ HB) hb);have n2_:=aM_ (hbox);have n3_:=aM_ ((by rw [hg];exact (bS_ (by exact bZ_ HB)) : w.heap.size ≤ gb195));have n4_:=aM_ ((by rw [hg];exact (bS_ (by exact bZ_ HB)) : w.heap.size ≤ gb195));have n5_:=aM_ ((by rw [hg];exact nN_ (blk_lt (g:=gb194) (o:=.cells #[.string a0_0,.slice A0_1 l0_1.length c0_1,.slice A0_2 l0_2.length c0_2,.slice A0_3 l0_3.length c0_3] 35 (0,0)) (by exact kZ_ BK194)) : gb194 ≠ gb195));have n6_:=aM_ ((by rw [hg];exact Nat.ne_of_gt (blk_lt (g:=gb194) (o:=.cells #[.string a0_0,.slice A0_1 l0_1.length c0_1,.slice A0_2 l0_2.length c0_2,.slice A0_3 l0_3.length c0_3] 35 (0,0)) (by exact kZ_ BK194)) : gb195 ≠ gb194));clear BK194 HB;have BK194:=n0_;have HB:=n1_;have BK195:=n2_;have GW195:=n3_;have GE195:=n4_;have NB194_195:=n5_;have NB195_194:=n6_;clear n0_ n1_ n2_ n3_ n4_ n5_ n6_ hb hbox hg;have hnb12:=NB194_195.out;have hnc12:=NB195_194.out;have hcz13_0 : w11.cell? ⟨gb194,0,none⟩ = some (.string a0_0):=(kC_ BK194.out 0).trans rfl;have hcz13_1 : w11.cell? ⟨gb194,1,none⟩ = some (.slice A0_1 l0_1.length c0_1):=(kC_ BK194.out 1).trans rfl;have hcz13_2 : w11.cell? ⟨gb194,2,none⟩ = some (.slice A0_2 l0_2.length c0_2):=(kC_ BK194.out 2).trans rfl;have hcz13_3 : w11.cell? ⟨gb194,3,none⟩ = some (.slice A0_3 l0_3.length c0_3):=(kC_ BK194.out 3).trans rfl;have hfz13_0:=kF_ BK194.out 0;have hfz13_1:=kF_ BK194.out 1;have hfz13_2:=kF_ BK194.out 2;have hfz13_3:=kF_ BK194.out 3;have hcz14_0 : w11.cell? ⟨gb195,0,none⟩ = some (.string a1_0):=(kC_ BK195.out 0).trans rfl;have hcz14_1 : w11.cell? ⟨gb195,1,none⟩ = some (.slice A1_1 l1_1.length c1_1):=(kC_ BK195.out 1).trans rfl;have hcz14_2 : w11.cell? ⟨gb195,2,none⟩ = some (.slice A1_2 l1_2.length c1_2):=(kC_ BK195.out 2).trans rfl;have hcz14_3 : w11.cell? ⟨gb195,3,none⟩ = some (.slice A1_3 l1_3.length c1_3):=(kC_ BK195.out 3).trans rfl;have hfz14_0:=kF_ BK195.out 0;have hfz14_1:=kF_ BK195.out 1;have hfz14_2:=kF_ BK195.out 2;have hfz14_3:=kF_ BK195.out 3) | ((with_reducible refine gate_callee (f:=76) rfl ?_);refine goesL_ (some 14) rfl rfl Tryd.func76 (by kernel_rfl) rfl #[.slice A0_1 l0_1.length c0_1,.slice A1_1 l1_1.length c1_1] rfl (by (try simp only [mA_,mC_,mN_]);first | done | rfl | (simp only [lD_,lT_];rfl)) ?_;(with_reducible refine (laws_eqColS.calls k _ _ l0_1 _ _ l1_1 true _ ?side1 ?side2 ?side3 ?side4 A4.out).mono ?_);(case side1=>exact cZ_ HR0_1 HB);(case side2=>exact HC0_1.out);(case side3=>exact cZ_ HR1_1 HB);(case side4=>exact HC1_1.out);rintro e w15 ⟨rfl,hb⟩;refine ⟨_,rfl,?_⟩;have n0_:=aM_ (blk_below (g:=gb194) (o:=.cells #[.string a0_0,.slice A0_1 l0_1.length c0_1,.slice A0_2 l0_2.length c0_2,.slice A0_3 l0_3.length c0_3] 35 (0,0)) (by exact kZ_ BK194) hb);have n1_:=aM_ (blk_below (g:=gb195) (o:=.cells #[.string a1_0,.slice A1_1 l1_1.length c1_1,.slice A1_2 l1_2.length c1_2,.slice A1_3 l1_3.length c1_3] 35 (0,0)) (by exact kZ_ BK195) hb);have n2_:=aM_ (bT_ (by exact bZ_ HB) hb);clear BK194 BK195 HB;have BK194:=n0_;have BK195:=n1_;have HB:=n2_;clear n0_ n1_ n2_ hb;have hcz16_0 : w15.cell? ⟨gb194,0,none⟩ = some (.string a0_0):=(kC_ BK194.out 0).trans rfl;have hcz16_1 : w15.cell? ⟨gb194,1,none⟩ = some (.slice A0_1 l0_1.length c0_1):=(kC_ BK194.out 1).trans rfl;have hcz16_2 : w15.cell? ⟨gb194,2,none⟩ = some (.slice A0_2 l0_2.length c0_2):=(kC_ BK194.out 2).trans rfl;have hcz16_3 : w15.cell? ⟨gb194,3,none⟩ = some (.slice A0_3 l0_3.length c0_3):=(kC_ BK194.out 3).trans rfl;have hfz16_0:=kF_ BK194.out 0;have hfz16_1:=kF_ BK194.out 1;have hfz16_2:=kF_ BK194.out 2;have hfz16_3:=kF_ BK194.out 3;have hcz17_0 : w15.cell? ⟨gb195,0,none⟩ = some (.string a1_0):=(kC_ BK195.out 0).trans rfl;have hcz17_1 : w15.cell? ⟨gb195,1,none⟩ = some (.slice A1_1 l1_1.length c1_1):=(kC_ BK195.out 1).trans rfl;have hcz17_2 : w15.cell? ⟨gb195,2,none⟩ = some (.slice A1_2 l1_2.length c1_2):=(kC_ BK195.out 2).trans rfl;have hcz17_3 : w15.cell? ⟨gb195,3,none⟩ = some (.slice A1_3 l1_3.length c1_3):=(kC_ BK195.out 3).trans rfl;have hfz17_0:=kF_ BK195.out 0;have hfz17_1:=kF_ BK195.out 1;have hfz17_2:=kF_ BK195.out 2;have hfz17_3:=kF_ BK195.out 3) | ((with_reducible refine gate_callee (f:=77) rfl ?_);refine goesL_ (some 20) rfl rfl Tryd.func77 (by kernel_rfl) rfl #[.slice A0_2 l0_2.length c0_2,.slice A1_2 l1_2.length c1_2] rfl (by (try simp only [mA_,mC_,mN_]);first | done | rfl | (simp only [lD_,lT_];rfl)) ?_;(with_reducible refine (laws_eqByS.calls k _ _ l0_2 _ _ l1_2 true _ ?side1 ?side2 ?side3 ?side4 A6.out).mono ?_);(case side1=>exact cZ_ HR0_2 HB);(case side2=>exact HC0_2.out);(case side3=>exact cZ_ HR1_2 HB);(case side4=>exact HC1_2.out);rintro e w18 ⟨rfl,hb⟩;refine ⟨_,rfl,?_⟩;have n0_:=aM_ (blk_below (g:=gb194) (o:=.cells #[.string a0_0,.slice A0_1 l0_1.length c0_1,.slice A0_2 l0_2.length c0_2,.slice A0_3 l0_3.length c0_3] 35 (0,0)) (by exact kZ_ BK194) hb);have n1_:=aM_ (blk_below (g:=gb195) (o:=.cells #[.string a1_0,.slice A1_1 l1_1.length c1_1,.slice A1_2 l1_2.length c1_2,.slice A1_3 l1_3.length c1_3] 35 (0,0)) (by exact kZ_ BK195) hb);have n2_:=aM_ (bT_ (by exact bZ_ HB) hb);clear BK194 BK195 HB;have BK194:=n0_;have BK195:=n1_;have HB:=n2_;clear n0_ n1_ n2_ hb;have hcz19_0 : w18.cell? ⟨gb194,0,none⟩ = some (.string a0_0):=(kC_ BK194.out 0).trans rfl;have hcz19_1 : w18.cell? ⟨gb194,1,none⟩ = some (.slice A0_1 l0_1.length c0_1):=(kC_ BK194.out 1).trans rfl;have hcz19_2 : w18.cell? ⟨gb194,2,none⟩ = some (.slice A0_2 l0_2.length c0_2):=(kC_ BK194.out 2).trans rfl;have hcz19_3 : w18.cell? ⟨gb194,3,none⟩ = some (.slice A0_3 l0_3.length c0_3):=(kC_ BK194.out 3).trans rfl;have hfz19_0:=kF_ BK194.out 0;have hfz19_1:=kF_ BK194.out 1;have hfz19_2:=kF_ BK194.out 2;have hfz19_3:=kF_ BK194.out 3;have hcz20_0 : w18.cell? ⟨gb195,0,none⟩ = some (.string a1_0):=(kC_ BK195.out 0).trans rfl;have hcz20_1 : w18.cell? ⟨gb195,1,none⟩ = some (.slice A1_1 l1_1.length c1_1):=(kC_ BK195.out 1).trans rfl;have hcz20_2 : w18.cell? ⟨gb195,2,none⟩ = some (.slice A1_2 l1_2.length c1_2):=(kC_ BK195.out 2).trans rfl;have hcz20_3 : w18.cell? ⟨gb195,3,none⟩ = some (.slice A1_3 l1_3.length c1_3):=(kC_ BK195.out 3).trans rfl;have hfz20_0:=kF_ BK195.out 0;have hfz20_1:=kF_ BK195.out 1;have hfz20_2:=kF_ BK195.out 2;have hfz20_3:=kF_ BK195.out 3) | ((with_reducible refine gate_callee (f:=78) rfl ?_);refine goesL_ (some 26) rfl rfl Tryd.func78 (by kernel_rfl) rfl #[.slice A0_3 l0_3.length c0_3,.slice A1_3 l1_3.length c1_3] rfl (by (try simp only [mA_,mC_,mN_]);first | done | rfl | (simp only [lD_,lT_];rfl)) ?_;(with_reducible refine (laws_eqIndexS.calls k _ _ l0_3 _ _ l1_3 true _ ?side1 ?side2 ?side3 ?side4 A8.out).mono ?_);(case side1=>exact cZ_ HR0_3 HB);(case side2=>exact HC0_3.out);(case side3=>exact cZ_ HR1_3 HB);(case side4=>exact HC1_3.out);rintro e w21 ⟨rfl,hb⟩;refine ⟨_,rfl,?_⟩;have n0_:=aM_ (blk_below (g:=gb194) (o:=.cells #[.string a0_0,.slice A0_1 l0_1.length c0_1,.slice A0_2 l0_2.length c0_2,.slice A0_3 l0_3.length c0_3] 35 (0,0)) (by exact kZ_ BK194) hb);have n1_:=aM_ (blk_below (g:=gb195) (o:=.cells #[.string a1_0,.slice A1_1 l1_1.length c1_1,.slice A1_2 l1_2.length c1_2,.slice A1_3 l1_3.length c1_3] 35 (0,0)) (by exact kZ_ BK195) hb);have n2_:=aM_ (bT_ (by exact bZ_ HB) hb);clear BK194 BK195 HB;have BK194:=n0_;have BK195:=n1_;have HB:=n2_;clear n0_ n1_ n2_ hb))
     go_ret
     exact ⟨by first | rfl | (simp [errW_none,errW_some] <;> rfl) | (simp [*, errW_none,errW_some] <;> rfl),by exact bZ_ HB⟩
    ·replace c9:=Bool.eq_false_iff.mpr c9
     subst c9
     have H1 : (some false) = some r:=by rw [if_neg (show ¬ (false = true) by decide)] at H;exact H
     clear H
     have H:=H1
     clear H1
     obtain rfl:=Option.some.inj H
     go_enter Tryd.func30,Tryd.ntmps30
     go_wp2_with (first | ((with_reducible refine gate_dst (N:=2) rfl ?_);refine box_event ?hg (N:=2) ?hd (cs:=#[.string a0_0,.slice A0_1 l0_1.length c0_1,.slice A0_2 l0_2.length c0_2,.slice A0_3 l0_3.length c0_3]) (t:=35) ?hr ?_;(case hd=>rfl);(case hg=>rfl);(case hr=>first | (go_simp;done) | (go_simp;rfl));intro gb194 hg w22 hbox hb;have n0_:=aM_ (bT_ (by exact bZ_ HB) hb);have n1_:=aM_ (hbox);have n2_:=aM_ ((by rw [hg];exact (bS_ (by exact bZ_ HB)) : w.heap.size ≤ gb194));have n3_:=aM_ ((by rw [hg];exact (bS_ (by exact bZ_ HB)) : w.heap.size ≤ gb194));clear HB;have HB:=n0_;have BK194:=n1_;have GW194:=n2_;have GE194:=n3_;clear n0_ n1_ n2_ n3_ hb hbox hg) | ((with_reducible refine gate_dst (N:=3) rfl ?_);refine box_event ?hg (N:=3) ?hd (cs:=#[.string a1_0,.slice A1_1 l1_1.length c1_1,.slice A1_2 l1_2.length c1_2,.slice A1_3 l1_3.length c1_3]) (t:=35) ?hr ?_;(case hd=>rfl);(case hg=>rfl);(case hr=>first | (go_simp;done) | (go_simp;rfl));intro gb195 hg w23 hbox hb;have n0_:=aM_ (blk_below (g:=gb194) (o:=.cells #[.string a0_0,.slice A0_1 l0_1.length c0_1,.slice A0_2 l0_2.length c0_2,.slice A0_3 l0_3.length c0_3] 35 (0,0)) (by exact kZ_ BK194) hb);have n1_:=aM_ (bT_ (by exact bZ_ HB) hb);have n2_:=aM_ (hbox);have n3_:=aM_ ((by rw [hg];exact (bS_ (by exact bZ_ HB)) : w.heap.size ≤ gb195));have n4_:=aM_ ((by rw [hg];exact (bS_ (by exact bZ_ HB)) : w.heap.size ≤ gb195));have n5_:=aM_ ((by rw [hg];exact nN_ (blk_lt (g:=gb194) (o:=.cells #[.string a0_0,.slice A0_1 l0_1.length c0_1,.slice A0_2 l0_2.length c0_2,.slice A0_3 l0_3.length c0_3] 35 (0,0)) (by exact kZ_ BK194)) : gb194 ≠ gb195));have n6_:=aM_ ((by rw [hg];exact Nat.ne_of_gt (blk_lt (g:=gb194) (o:=.cells #[.string a0_0,.slice A0_1 l0_1.length c0_1,.slice A0_2 l0_2.length c0_2,.slice A0_3 l0_3.length c0_3] 35 (0,0)) (by exact kZ_ BK194)) : gb195 ≠ gb194));clear BK194 HB;have BK194:=n0_;have HB:=n1_;have BK195:=n2_;have GW195:=n3_;have GE195:=n4_;have NB194_195:=n5_;have NB195_194:=n6_;clear n0_ n1_ n2_ n3_ n4_ n5_ n6_ hb hbox hg;have hnb24:=NB194_195.out;have hnc24:=NB195_194.out;have hcz25_0 : w23.cell? ⟨gb194,0,none⟩ = some (.string a0_0):=(kC_ BK194.out 0).trans rfl;have hcz25_1 : w23.cell? ⟨gb194,1,none⟩ = some (.slice A0_1 l0_1.length c0_1):=(kC_ BK194.out 1).trans rfl;have hcz25_2 : w23.cell? ⟨gb194,2,none⟩ = some (.slice A0_2 l0_2.length c0_2):=(kC_ BK194.out 2).trans rfl;have hcz25_3 : w23.cell? ⟨gb194,3,none⟩ = some (.slice A0_3 l0_3.length c0_3):=(kC_ BK194.out 3).trans rfl;have hfz25_0:=kF_ BK194.out 0;have hfz25_1:=kF_ BK194.out 1;have hfz25_2:=kF_ BK194.out 2;have hfz25_3:=kF_ BK194.out 3;have hcz26_0 : w23.cell? ⟨gb195,0,none⟩ = some (.string a1_0):=(kC_ BK195.out 0).trans rfl;have hcz26_1 : w23.cell? ⟨gb195,1,none⟩ = some (.slice A1_1 l1_1.length c1_1):=(kC_ BK195.out 1).trans rfl;have hcz26_2 : w23.cell? ⟨gb195,2,none⟩ = some (.slice A1_2 l1_2.length c1_2):=(kC_ BK195.out 2).trans rfl;have hcz26_3 : w23.cell? ⟨gb195,3,none⟩ = some (.slice A1_3 l1_3.length c1_3):=(kC_ BK195.out 3).trans rfl;have hfz26_0:=kF_ BK195.out 0;have hfz26_1:=kF_ BK195.out 1;have hfz26_2:=kF_ BK195.out 2;have hfz26_3:=kF_ BK195.out 3) | ((with_reducible refine gate_callee (f:=76) rfl ?_);refine goesL_ (some 14) rfl rfl Tryd.func76 (by kernel_rfl) rfl #[.slice A0_1 l0_1.length c0_1,.slice A1_1 l1_1.length c1_1] rfl (by (try simp only [mA_,mC_,mN_]);first | done | rfl | (simp only [lD_,lT_];rfl)) ?_;(with_reducible refine (laws_eqColS.calls k _ _ l0_1 _ _ l1_1 true _ ?side1 ?side2 ?side3 ?side4 A4.out).mono ?_);(case side1=>exact cZ_ HR0_1 HB);(case side2=>exact HC0_1.out);(case side3=>exact cZ_ HR1_1 HB);(case side4=>exact HC1_1.out);rintro e w27 ⟨rfl,hb⟩;refine ⟨_,rfl,?_⟩;have n0_:=aM_ (blk_below (g:=gb194) (o:=.cells #[.string a0_0,.slice A0_1 l0_1.length c0_1,.slice A0_2 l0_2.length c0_2,.slice A0_3 l0_3.length c0_3] 35 (0,0)) (by exact kZ_ BK194) hb);have n1_:=aM_ (blk_below (g:=gb195) (o:=.cells #[.string a1_0,.slice A1_1 l1_1.length c1_1,.slice A1_2 l1_2.length c1_2,.slice A1_3 l1_3.length c1_3] 35 (0,0)) (by exact kZ_ BK195) hb);have n2_:=aM_ (bT_ (by exact bZ_ HB) hb);clear BK194 BK195 HB;have BK194:=n0_;have BK195:=n1_;have HB:=n2_;clear n0_ n1_ n2_ hb;have hcz28_0 : w27.cell? ⟨gb194,0,none⟩ = some (.string a0_0):=(kC_ BK194.out 0).trans rfl;have hcz28_1 : w27.cell? ⟨gb194,1,none⟩ = some (.slice A0_1 l0_1.length c0_1):=(kC_ BK194.out 1).trans rfl;have hcz28_2 : w27.cell? ⟨gb194,2,none⟩ = some (.slice A0_2 l0_2.length c0_2):=(kC_ BK194.out 2).trans rfl;have hcz28_3 : w27.cell? ⟨gb194,3,none⟩ = some (.slice A0_3 l0_3.length c0_3):=(kC_ BK194.out 3).trans rfl;have hfz28_0:=kF_ BK194.out 0;have hfz28_1:=kF_ BK194.out 1;have hfz28_2:=kF_ BK194.out 2;have hfz28_3:=kF_ BK194.out 3;have hcz29_0 : w27.cell? ⟨gb195,0,none⟩ = some (.string a1_0):=(kC_ BK195.out 0).trans rfl;have hcz29_1 : w27.cell? ⟨gb195,1,none⟩ = some (.slice A1_1 l1_1.length c1_1):=(kC_ BK195.out 1).trans rfl;have hcz29_2 : w27.cell? ⟨gb195,2,none⟩ = some (.slice A1_2 l1_2.length c1_2):=(kC_ BK195.out 2).trans rfl;have hcz29_3 : w27.cell? ⟨gb195,3,none⟩ = some (.slice A1_3 l1_3.length c1_3):=(kC_ BK195.out 3).trans rfl;have hfz29_0:=kF_ BK195.out 0;have hfz29_1:=kF_ BK195.out 1;have hfz29_2:=kF_ BK195.out 2;have hfz29_3:=kF_ BK195.out 3) | ((with_reducible refine gate_callee (f:=77) rfl ?_);refine goesL_ (some 20) rfl rfl Tryd.func77 (by kernel_rfl) rfl #[.slice A0_2 l0_2.length c0_2,.slice A1_2 l1_2.length c1_2] rfl (by (try simp only [mA_,mC_,mN_]);first | done | rfl | (simp only [lD_,lT_];rfl)) ?_;(with_reducible refine (laws_eqByS.calls k _ _ l0_2 _ _ l1_2 true _ ?side1 ?side2 ?side3 ?side4 A6.out).mono ?_);(case side1=>exact cZ_ HR0_2 HB);(case side2=>exact HC0_2.out);(case side3=>exact cZ_ HR1_2 HB);(case side4=>exact HC1_2.out);rintro e w30 ⟨rfl,hb⟩;refine ⟨_,rfl,?_⟩;have n0_:=aM_ (blk_below (g:=gb194) (o:=.cells #[.string a0_0,.slice A0_1 l0_1.length c0_1,.slice A0_2 l0_2.length c0_2,.slice A0_3 l0_3.length c0_3] 35 (0,0)) (by exact kZ_ BK194) hb);have n1_:=aM_ (blk_below (g:=gb195) (o:=.cells #[.string a1_0,.slice A1_1 l1_1.length c1_1,.slice A1_2 l1_2.length c1_2,.slice A1_3 l1_3.length c1_3] 35 (0,0)) (by exact kZ_ BK195) hb);have n2_:=aM_ (bT_ (by exact bZ_ HB) hb);clear BK194 BK195 HB;have BK194:=n0_;have BK195:=n1_;have HB:=n2_;clear n0_ n1_ n2_ hb;have hcz31_0 : w30.cell? ⟨gb194,0,none⟩ = some (.string a0_0):=(kC_ BK194.out 0).trans rfl;have hcz31_1 : w30.cell? ⟨gb194,1,none⟩ = some (.slice A0_1 l0_1.length c0_1):=(kC_ BK194.out 1).trans rfl;have hcz31_2 : w30.cell? ⟨gb194,2,none⟩ = some (.slice A0_2 l0_2.length c0_2):=(kC_ BK194.out 2).trans rfl;have hcz31_3 : w30.cell? ⟨gb194,3,none⟩ = some (.slice A0_3 l0_3.length c0_3):=(kC_ BK194.out 3).trans rfl;have hfz31_0:=kF_ BK194.out 0;have hfz31_1:=kF_ BK194.out 1;have hfz31_2:=kF_ BK194.out 2;have hfz31_3:=kF_ BK194.out 3;have hcz32_0 : w30.cell? ⟨gb195,0,none⟩ = some (.string a1_0):=(kC_ BK195.out 0).trans rfl;have hcz32_1 : w30.cell? ⟨gb195,1,none⟩ = some (.slice A1_1 l1_1.length c1_1):=(kC_ BK195.out 1).trans rfl;have hcz32_2 : w30.cell? ⟨gb195,2,none⟩ = some (.slice A1_2 l1_2.length c1_2):=(kC_ BK195.out 2).trans rfl;have hcz32_3 : w30.cell? ⟨gb195,3,none⟩ = some (.slice A1_3 l1_3.length c1_3):=(kC_ BK195.out 3).trans rfl;have hfz32_0:=kF_ BK195.out 0;have hfz32_1:=kF_ BK195.out 1;have hfz32_2:=kF_ BK195.out 2;have hfz32_3:=kF_ BK195.out 3) | ((with_reducible refine gate_callee (f:=78) rfl ?_);refine goesL_ (some 26) rfl rfl Tryd.func78 (by kernel_rfl) rfl #[.slice A0_3 l0_3.length c0_3,.slice A1_3 l1_3.length c1_3] rfl (by (try simp only [mA_,mC_,mN_]);first | done | rfl | (simp only [lD_,lT_];rfl)) ?_;(with_reducible refine (laws_eqIndexS.calls k _ _ l0_3 _ _ l1_3 false _ ?side1 ?side2 ?side3 ?side4 A8.out).mono ?_);(case side1=>exact cZ_ HR0_3 HB);(case side2=>exact HC0_3.out);(case side3=>exact cZ_ HR1_3 HB);(case side4=>exact HC1_3.out);rintro e w33 ⟨rfl,hb⟩;refine ⟨_,rfl,?_⟩;have n0_:=aM_ (blk_below (g:=gb194) (o:=.cells #[.string a0_0,.slice A0_1 l0_1.length c0_1,.slice A0_2 l0_2.length c0_2,.slice A0_3 l0_3.length c0_3] 35 (0,0)) (by exact kZ_ BK194) hb);have n1_:=aM_ (blk_below (g:=gb195) (o:=.cells #[.string a1_0,.slice A1_1 l1_1.length c1_1,.slice A1_2 l1_2.length c1_2,.slice A1_3 l1_3.length c1_3] 35 (0,0)) (by exact kZ_ BK195) hb);have n2_:=aM_ (bT_ (by exact bZ_ HB) hb);clear BK194 BK195 HB;have BK194:=n0_;have BK195:=n1_;have HB:=n2_;clear n0_ n1_ n2_ hb))
     go_ret
     exact ⟨by first | rfl | (simp [errW_none,errW_some] <;> rfl) | (simp [*, errW_none,errW_some] <;> rfl),by exact bZ_ HB⟩
   ·replace c7:=Bool.eq_false_iff.mpr c7
    subst c7
    have H1 : (some false) = some r:=by rw [if_neg (show ¬ (false = true) by decide)] at H;exact H
    clear H
    have H:=H1
    clear H1
    obtain rfl:=Option.some.inj H
    go_enter Tryd.func30,Tryd.ntmps30
    go_wp2_with (first | ((with_reducible refine gate_dst (N:=2) rfl ?_);refine box_event ?hg (N:=2) ?hd (cs:=#[.string a0_0,.slice A0_1 l0_1.length c0_1,.slice A0_2 l0_2.length c0_2,.slice A0_3 l0_3.length c0_3]) (t:=35) ?hr ?_;(case hd=>rfl);(case hg=>rfl);(case hr=>first | (go_simp;done) | (go_simp;rfl));intro gb194 hg w34 hbox hb;have n0_:=aM_ (bT_ (by exact bZ_ HB) hb);have n1_:=aM_ (hbox);have n2_:=aM_ ((by rw [hg];exact (bS_ (by exact bZ_ HB)) : w.heap.size ≤ gb194));have n3_:=aM_ ((by rw [hg];exact (bS_ (by exact bZ_ HB)) : w.heap.size ≤ gb194));clear HB;have HB:=n0_;have BK194:=n1_;have GW194:=n2_;have GE194:=n3_;clear n0_ n1_ n2_ n3_ hb hbox hg) | ((with_reducible refine gate_dst (N:=3) rfl ?_);refine box_event ?hg (N:=3) ?hd (cs:=#[.string a1_0,.slice A1_1 l1_1.length c1_1,.slice A1_2 l1_2.length c1_2,.slice A1_3 l1_3.length c1_3]) (t:=35) ?hr ?_;(case hd=>rfl);(case hg=>rfl);(case hr=>first | (go_simp;done) | (go_simp;rfl));intro gb195 hg w35 hbox hb;have n0_:=aM_ (blk_below (g:=gb194) (o:=.cells #[.string a0_0,.slice A0_1 l0_1.length c0_1,.slice A0_2 l0_2.length c0_2,.slice A0_3 l0_3.length c0_3] 35 (0,0)) (by exact kZ_ BK194) hb);have n1_:=aM_ (bT_ (by exact bZ_ HB) hb);have n2_:=aM_ (hbox);have n3_:=aM_ ((by rw [hg];exact (bS_ (by exact bZ_ HB)) : w.heap.size ≤ gb195));have n4_:=aM_ ((by rw [hg];exact (bS_ (by exact bZ_ HB)) : w.heap.size ≤ gb195));have n5_:=aM_ ((by rw [hg];exact nN_ (blk_lt (g:=gb194) (o:=.cells #[.string a0_0,.slice A0_1 l0_1.length c0_1,.slice A0_2 l0_2.length c0_2,.slice A0_3 l0_3.length c0_3] 35 (0,0)) (by exact kZ_ BK194)) : gb194 ≠ gb195));have n6_:=aM_ ((by rw [hg];exact Nat.ne_of_gt (blk_lt (g:=gb194) (o:=.cells #[.string a0_0,.slice A0_1 l0_1.length c0_1,.slice A0_2 l0_2.length c0_2,.slice A0_3 l0_3.length c0_3] 35 (0,0)) (by exact kZ_ BK194)) : gb195 ≠ gb194));clear BK194 HB;have BK194:=n0_;have HB:=n1_;have BK195:=n2_;have GW195:=n3_;have GE195:=n4_;have NB194_195:=n5_;have NB195_194:=n6_;clear n0_ n1_ n2_ n3_ n4_ n5_ n6_ hb hbox hg;have hnb36:=NB194_195.out;have hnc36:=NB195_194.out;have hcz37_0 : w35.cell? ⟨gb194,0,none⟩ = some (.string a0_0):=(kC_ BK194.out 0).trans rfl;have hcz37_1 : w35.cell? ⟨gb194,1,none⟩ = some (.slice A0_1 l0_1.length c0_1):=(kC_ BK194.out 1).trans rfl;have hcz37_2 : w35.cell? ⟨gb194,2,none⟩ = some (.slice A0_2 l0_2.length c0_2):=(kC_ BK194.out 2).trans rfl;have hcz37_3 : w35.cell? ⟨gb194,3,none⟩ = some (.slice A0_3 l0_3.length c0_3):=(kC_ BK194.out 3).trans rfl;have hfz37_0:=kF_ BK194.out 0;have hfz37_1:=kF_ BK194.out 1;have hfz37_2:=kF_ BK194.out 2;have hfz37_3:=kF_ BK194.out 3;have hcz38_0 : w35.cell? ⟨gb195,0,none⟩ = some (.string a1_0):=(kC_ BK195.out 0).trans rfl;have hcz38_1 : w35.cell? ⟨gb195,1,none⟩ = some (.slice A1_1 l1_1.length c1_1):=(kC_ BK195.out 1).trans rfl;have hcz38_2 : w35.cell? ⟨gb195,2,none⟩ = some (.slice A1_2 l1_2.length c1_2):=(kC_ BK195.out 2).trans rfl;have hcz38_3 : w35.cell? ⟨gb195,3,none⟩ = some (.slice A1_3 l1_3.length c1_3):=(kC_ BK195.out 3).trans rfl;have hfz38_0:=kF_ BK195.out 0;have hfz38_1:=kF_ BK195.out 1;have hfz38_2:=kF_ BK195.out 2;have hfz38_3:=kF_ BK195.out 3) | ((with_reducible refine gate_callee (f:=76) rfl ?_);refine goesL_ (some 14) rfl rfl Tryd.func76 (by kernel_rfl) rfl #[.slice A0_1 l0_1.length c0_1,.slice A1_1 l1_1.length c1_1] rfl (by (try simp only [mA_,mC_,mN_]);first | done | rfl | (simp only [lD_,lT_];rfl)) ?_;(with_reducible refine (laws_eqColS.calls k _ _ l0_1 _ _ l1_1 true _ ?side1 ?side2 ?side3 ?side4 A4.out).mono ?_);(case side1=>exact cZ_ HR0_1 HB);(case side2=>exact HC0_1.out);(case side3=>exact cZ_ HR1_1 HB);(case side4=>exact HC1_1.out);rintro e w39 ⟨rfl,hb⟩;refine ⟨_,rfl,?_⟩;have n0_:=aM_ (blk_below (g:=gb194) (o:=.cells #[.string a0_0,.slice A0_1 l0_1.length c0_1,.slice A0_2 l0_2.length c0_2,.slice A0_3 l0_3.length c0_3] 35 (0,0)) (by exact kZ_ BK194) hb);have n1_:=aM_ (blk_below (g:=gb195) (o:=.cells #[.string a1_0,.slice A1_1 l1_1.length c1_1,.slice A1_2 l1_2.length c1_2,.slice A1_3 l1_3.length c1_3] 35 (0,0)) (by exact kZ_ BK195) hb);have n2_:=aM_ (bT_ (by exact bZ_ HB) hb);clear BK194 BK195 HB;have BK194:=n0_;have BK195:=n1_;have HB:=n2_;clear n0_ n1_ n2_ hb;have hcz40_0 : w39.cell? ⟨gb194,0,none⟩ = some (.string a0_0):=(kC_ BK194.out 0).trans rfl;have hcz40_1 : w39.cell? ⟨gb194,1,none⟩ = some (.slice A0_1 l0_1.length c0_1):=(kC_ BK194.out 1).trans rfl;have hcz40_2 : w39.cell? ⟨gb194,2,none⟩ = some (.slice A0_2 l0_2.length c0_2):=(kC_ BK194.out 2).trans rfl;have hcz40_3 : w39.cell? ⟨gb194,3,none⟩ = some (.slice A0_3 l0_3.length c0_3):=(kC_ BK194.out 3).trans rfl;have hfz40_0:=kF_ BK194.out 0;have hfz40_1:=kF_ BK194.out 1;have hfz40_2:=kF_ BK194.out 2;have hfz40_3:=kF_ BK194.out 3;have hcz41_0 : w39.cell? ⟨gb195,0,none⟩ = some (.string a1_0):=(kC_ BK195.out 0).trans rfl;have hcz41_1 : w39.cell? ⟨gb195,1,none⟩ = some (.slice A1_1 l1_1.length c1_1):=(kC_ BK195.out 1).trans rfl;have hcz41_2 : w39.cell? ⟨gb195,2,none⟩ = some (.slice A1_2 l1_2.length c1_2):=(kC_ BK195.out 2).trans rfl;have hcz41_3 : w39.cell? ⟨gb195,3,none⟩ = some (.slice A1_3 l1_3.length c1_3):=(kC_ BK195.out 3).trans rfl;have hfz41_0:=kF_ BK195.out 0;have hfz41_1:=kF_ BK195.out 1;have hfz41_2:=kF_ BK195.out 2;have hfz41_3:=kF_ BK195.out 3) | ((with_reducible refine gate_callee (f:=77) rfl ?_);refine goesL_ (some 20) rfl rfl Tryd.func77 (by kernel_rfl) rfl #[.slice A0_2 l0_2.length c0_2,.slice A1_2 l1_2.length c1_2] rfl (by (try simp only [mA_,mC_,mN_]);first | done | rfl | (simp only [lD_,lT_];rfl)) ?_;(with_reducible refine (laws_eqByS.calls k _ _ l0_2 _ _ l1_2 false _ ?side1 ?side2 ?side3 ?side4 A6.out).mono ?_);(case side1=>exact cZ_ HR0_2 HB);(case side2=>exact HC0_2.out);(case side3=>exact cZ_ HR1_2 HB);(case side4=>exact HC1_2.out);rintro e w42 ⟨rfl,hb⟩;refine ⟨_,rfl,?_⟩;have n0_:=aM_ (blk_below (g:=gb194) (o:=.cells #[.string a0_0,.slice A0_1 l0_1.length c0_1,.slice A0_2 l0_2.length c0_2,.slice A0_3 l0_3.length c0_3] 35 (0,0)) (by exact kZ_ BK194) hb);have n1_:=aM_ (blk_below (g:=gb195) (o:=.cells #[.string a1_0,.slice A1_1 l1_1.length c1_1,.slice A1_2 l1_2.length c1_2,.slice A1_3 l1_3.length c1_3] 35 (0,0)) (by exact kZ_ BK195) hb);have n2_:=aM_ (bT_ (by exact bZ_ HB) hb);clear BK194 BK195 HB;have BK194:=n0_;have BK195:=n1_;have HB:=n2_;clear n0_ n1_ n2_ hb))
    go_ret
    exact ⟨by first | rfl | (simp [errW_none,errW_some] <;> rfl) | (simp [*, errW_none,errW_some] <;> rfl),by exact bZ_ HB⟩
  ·replace c5:=Bool.eq_false_iff.mpr c5
   subst c5
   have H1 : (some false) = some r:=by rw [if_neg (show ¬ (false = true) by decide)] at H;exact H
   clear H
   have H:=H1
   clear H1
   obtain rfl:=Option.some.inj H
   go_enter Tryd.func30,Tryd.ntmps30
   go_wp2_with (first | ((with_reducible refine gate_dst (N:=2) rfl ?_);refine box_event ?hg (N:=2) ?hd (cs:=#[.string a0_0,.slice A0_1 l0_1.length c0_1,.slice A0_2 l0_2.length c0_2,.slice A0_3 l0_3.length c0_3]) (t:=35) ?hr ?_;(case hd=>rfl);(case hg=>rfl);(case hr=>first | (go_simp;done) | (go_simp;rfl));intro gb194 hg w43 hbox hb;have n0_:=aM_ (bT_ (by exact bZ_ HB) hb);have n1_:=aM_ (hbox);have n2_:=aM_ ((by rw [hg];exact (bS_ (by exact bZ_ HB)) : w.heap.size ≤ gb194));have n3_:=aM_ ((by rw [hg];exact (bS_ (by exact bZ_ HB)) : w.heap.size ≤ gb194));clear HB;have HB:=n0_;have BK194:=n1_;have GW194:=n2_;have GE194:=n3_;clear n0_ n1_ n2_ n3_ hb hbox hg) | ((with_reducible refine gate_dst (N:=3) rfl ?_);refine box_event ?hg (N:=3) ?hd (cs:=#[.string a1_0,.slice A1_1 l1_1.length c1_1,.slice A1_2 l1_2.length c1_2,.slice A1_3 l1_3.length c1_3]) (t:=35) ?hr ?_;(case hd=>rfl);(case hg=>rfl);(case hr=>first | (go_simp;done) | (go_simp;rfl));intro gb195 hg w44 hbox hb;have n0_:=aM_ (blk_below (g:=gb194) (o:=.cells #[.string a0_0,.slice A0_1 l0_1.length c0_1,.slice A0_2 l0_2.length c0_2,.slice A0_3 l0_3.length c0_3] 35 (0,0)) (by exact kZ_ BK194) hb);have n1_:=aM_ (bT_ (by exact bZ_ HB) hb);have n2_:=aM_ (hbox);have n3_:=aM_ ((by rw [hg];exact (bS_ (by exact bZ_ HB)) : w.heap.size ≤ gb195));have n4_:=aM_ ((by rw [hg];exact (bS_ (by exact bZ_ HB)) : w.heap.size ≤ gb195));have n5_:=aM_ ((by rw [hg];exact nN_ (blk_lt (g:=gb194) (o:=.cells #[.string a0_0,.slice A0_1 l0_1.length c0_1,.slice A0_2 l0_2.length c0_2,.slice A0_3 l0_3.length c0_3] 35 (0,0)) (by exact kZ_ BK194)) : gb194 ≠ gb195));have n6_:=aM_ ((by rw [hg];exact Nat.ne_of_gt (blk_lt (g:=gb194) (o:=.cells #[.string a0_0,.slice A0_1 l0_1.length c0_1,.slice A0_2 l0_2.length c0_2,.slice A0_3 l0_3.length c0_3] 35 (0,0)) (by exact kZ_ BK194)) : gb195 ≠ gb194));clear BK194 HB;have BK194:=n0_;have HB:=n1_;have BK195:=n2_;have GW195:=n3_;have GE195:=n4_;have NB194_195:=n5_;have NB195_194:=n6_;clear n0_ n1_ n2_ n3_ n4_ n5_ n6_ hb hbox hg;have hnb45:=NB194_195.out;have hnc45:=NB195_194.out;have hcz46_0 : w44.cell? ⟨gb194,0,none⟩ = some (.string a0_0):=(kC_ BK194.out 0).trans rfl;have hcz46_1 : w44.cell? ⟨gb194,1,none⟩ = some (.slice A0_1 l0_1.length c0_1):=(kC_ BK194.out 1).trans rfl;have hcz46_2 : w44.cell? ⟨gb194,2,none⟩ = some (.slice A0_2 l0_2.length c0_2):=(kC_ BK194.out 2).trans rfl;have hcz46_3 : w44.cell? ⟨gb194,3,none⟩ = some (.slice A0_3 l0_3.length c0_3):=(kC_ BK194.out 3).trans rfl;have hfz46_0:=kF_ BK194.out 0;have hfz46_1:=kF_ BK194.out 1;have hfz46_2:=kF_ BK194.out 2;have hfz46_3:=kF_ BK194.out 3;have hcz47_0 : w44.cell? ⟨gb195,0,none⟩ = some (.string a1_0):=(kC_ BK195.out 0).trans rfl;have hcz47_1 : w44.cell? ⟨gb195,1,none⟩ = some (.slice A1_1 l1_1.length c1_1):=(kC_ BK195.out 1).trans rfl;have hcz47_2 : w44.cell? ⟨gb195,2,none⟩ = some (.slice A1_2 l1_2.length c1_2):=(kC_ BK195.out 2).trans rfl;have hcz47_3 : w44.cell? ⟨gb195,3,none⟩ = some (.slice A1_3 l1_3.length c1_3):=(kC_ BK195.out 3).trans rfl;have hfz47_0:=kF_ BK195.out 0;have hfz47_1:=kF_ BK195.out 1;have hfz47_2:=kF_ BK195.out 2;have hfz47_3:=kF_ BK195.out 3) | ((with_reducible refine gate_callee (f:=76) rfl ?_);refine goesL_ (some 14) rfl rfl Tryd.func76 (by kernel_rfl) rfl #[.slice A0_1 l0_1.length c0_1,.slice A1_1 l1_1.length c1_1] rfl (by (try simp only [mA_,mC_,mN_]);first | done | rfl | (simp only [lD_,lT_];rfl)) ?_;(with_reducible refine (laws_eqColS.calls k _ _ l0_1 _ _ l1_1 false _ ?side1 ?side2 ?side3 ?side4 A4.out).mono ?_);(case side1=>exact cZ_ HR0_1 HB);(case side2=>exact HC0_1.out);(case side3=>exact cZ_ HR1_1 HB);(case side4=>exact HC1_1.out);rintro e w48 ⟨rfl,hb⟩;refine ⟨_,rfl,?_⟩;have n0_:=aM_ (blk_below (g:=gb194) (o:=.cells #[.string a0_0,.slice A0_1 l0_1.length c0_1,.slice A0_2 l0_2.length c0_2,.slice A0_3 l0_3.length c0_3] 35 (0,0)) (by exact kZ_ BK194) hb);have n1_:=aM_ (blk_below (g:=gb195) (o:=.cells #[.string a1_0,.slice A1_1 l1_1.length c1_1,.slice A1_2 l1_2.length c1_2,.slice A1_3 l1_3.length c1_3] 35 (0,0)) (by exact kZ_ BK195) hb);have n2_:=aM_ (bT_ (by exact bZ_ HB) hb);clear BK194 BK195 HB;have BK194:=n0_;have BK195:=n1_;have HB:=n2_;clear n0_ n1_ n2_ hb))
   go_ret
   exact ⟨by first | rfl | (simp [errW_none,errW_some] <;> rfl) | (simp [*, errW_none,errW_some] <;> rfl),by exact bZ_ HB⟩
 ·rw [if_neg c3] at H
  have c3b0 : (a0_0.toList == a1_0.toList) = false:=beq_eq_false_iff_ne.mpr c3
  have c3b1 : (a0_0.toList != a1_0.toList) = true:=bne_iff_ne.mpr c3
  obtain rfl:=Option.some.inj H
  go_enter Tryd.func30,Tryd.ntmps30
  go_wp2_with (first | ((with_reducible refine gate_dst (N:=2) rfl ?_);refine box_event ?hg (N:=2) ?hd (cs:=#[.string a0_0,.slice A0_1 l0_1.length c0_1,.slice A0_2 l0_2.length c0_2,.slice A0_3 l0_3.length c0_3]) (t:=35) ?hr ?_;(case hd=>rfl);(case hg=>rfl);(case hr=>first | (go_simp;done) | (go_simp;rfl));intro gb194 hg w49 hbox hb;have n0_:=aM_ (bT_ (by exact bZ_ HB) hb);have n1_:=aM_ (hbox);have n2_:=aM_ ((by rw [hg];exact (bS_ (by exact bZ_ HB)) : w.heap.size ≤ gb194));have n3_:=aM_ ((by rw [hg];exact (bS_ (by exact bZ_ HB)) : w.heap.size ≤ gb194));clear HB;have HB:=n0_;have BK194:=n1_;have GW194:=n2_;have GE194:=n3_;clear n0_ n1_ n2_ n3_ hb hbox hg) | ((with_reducible refine gate_dst (N:=3) rfl ?_);refine box_event ?hg (N:=3) ?hd (cs:=#[.string a1_0,.slice A1_1 l1_1.length c1_1,.slice A1_2 l1_2.length c1_2,.slice A1_3 l1_3.length c1_3]) (t:=35) ?hr ?_;(case hd=>rfl);(case hg=>rfl);(case hr=>first | (go_simp;done) | (go_simp;rfl));intro gb195 hg w50 hbox hb;have n0_:=aM_ (blk_below (g:=gb194) (o:=.cells #[.string a0_0,.slice A0_1 l0_1.length c0_1,.slice A0_2 l0_2.length c0_2,.slice A0_3 l0_3.length c0_3] 35 (0,0)) (by exact kZ_ BK194) hb);have n1_:=aM_ (bT_ (by exact bZ_ HB) hb);have n2_:=aM_ (hbox);have n3_:=aM_ ((by rw [hg];exact (bS_ (by exact bZ_ HB)) : w.heap.size ≤ gb195));have n4_:=aM_ ((by rw [hg];exact (bS_ (by exact bZ_ HB)) : w.heap.size ≤ gb195));have n5_:=aM_ ((by rw [hg];exact nN_ (blk_lt (g:=gb194) (o:=.cells #[.string a0_0,.slice A0_1 l0_1.length c0_1,.slice A0_2 l0_2.length c0_2,.slice A0_3 l0_3.length c0_3] 35 (0,0)) (by exact kZ_ BK194)) : gb194 ≠ gb195));have n6_:=aM_ ((by rw [hg];exact Nat.ne_of_gt (blk_lt (g:=gb194) (o:=.cells #[.string a0_0,.slice A0_1 l0_1.length c0_1,.slice A0_2 l0_2.length c0_2,.slice A0_3 l0_3.length c0_3] 35 (0,0)) (by exact kZ_ BK194)) : gb195 ≠ gb194));clear BK194 HB;have BK194:=n0_;have HB:=n1_;have BK195:=n2_;have GW195:=n3_;have GE195:=n4_;have NB194_195:=n5_;have NB195_194:=n6_;clear n0_ n1_ n2_ n3_ n4_ n5_ n6_ hb hbox hg;have hnb51:=NB194_195.out;have hnc51:=NB195_194.out;have hcz52_0 : w50.cell? ⟨gb194,0,none⟩ = some (.string a0_0):=(kC_ BK194.out 0).trans rfl;have hcz52_1 : w50.cell? ⟨gb194,1,none⟩ = some (.slice A0_1 l0_1.length c0_1):=(kC_ BK194.out 1).trans rfl;have hcz52_2 : w50.cell? ⟨gb194,2,none⟩ = some (.slice A0_2 l0_2.length c0_2):=(kC_ BK194.out 2).trans rfl;have hcz52_3 : w50.cell? ⟨gb194,3,none⟩ = some (.slice A0_3 l0_3.length c0_3):=(kC_ BK194.out 3).trans rfl;have hfz52_0:=kF_ BK194.out 0;have hfz52_1:=kF_ BK194.out 1;have hfz52_2:=kF_ BK194.out 2;have hfz52_3:=kF_ BK194.out 3;have hcz53_0 : w50.cell? ⟨gb195,0,none⟩ = some (.string a1_0):=(kC_ BK195.out 0).trans rfl;have hcz53_1 : w50.cell? ⟨gb195,1,none⟩ = some (.slice A1_1 l1_1.length c1_1):=(kC_ BK195.out 1).trans rfl;have hcz53_2 : w50.cell? ⟨gb195,2,none⟩ = some (.slice A1_2 l1_2.length c1_2):=(kC_ BK195.out 2).trans rfl;have hcz53_3 : w50.cell? ⟨gb195,3,none⟩ = some (.slice A1_3 l1_3.length c1_3):=(kC_ BK195.out 3).trans rfl;have hfz53_0:=kF_ BK195.out 0;have hfz53_1:=kF_ BK195.out 1;have hfz53_2:=kF_ BK195.out 2;have hfz53_3:=kF_ BK195.out 3))
  go_ret
  exact ⟨by first | rfl | (simp [errW_none,errW_some] <;> rfl) | (simp [*, errW_none,errW_some] <;> rfl),by exact bZ_ HB⟩
end Go.Proofs.YtipehkeabnfngaaDoor.PFnExactDefsText
