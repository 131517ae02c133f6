import Derived.Test.YtipehkeabnfngaaDoorZDSPFnExactDefsTextx0
import Derived.Test.YtipehkeabnfngaaDoorZDSPFnExactDefsTextx2
namespace Go.Proofs.YtipehkeabnfngaaDoor.PFnExactDefsText
open Go.RowKit Go.Proofs.YtipehkeabnfngaaDoorW.PrintWords Go.Proofs.YtipehkeabnfngaaDoorW.PrintLast Go.Proofs.YtipehkeabnfngaaDoorW.PrintMore Go.Proofs.YtipehkeabnfngaaDoor.Xtra
attribute [local go_sem] max2_int min2_int max_two min_two max_three min_three max_four min_four str_leq str_gtr str_geq setCell_drewN cell_set2 cell_set3   -- for this text's walks alone
set_option linter.unusedVariables false
set_option linter.unusedSimpArgs false
def laws_eqColS.l0 : Nat → List (S82) → List (S82) → Int → Option (Bool)
 | 0,_,_,_=>none
 | k + 1,x0,x1,x5=>if x5 < (x0.length : Int) then (if 0 ≤ x5 then (if x5 < (x1.length : Int) then ((laws_eqCol.f ((rd_T82 x0 x5).f0) ((rd_T82 x0 x5).f1) ((rd_T82 x0 x5).f2) ((rd_T82 x1 x5).f0) ((rd_T82 x1 x5).f1) ((rd_T82 x1 x5).f2)).bind fun t182=>(if t182 = true then (laws_eqColS.l0 k x0 x1 (wrap64 (x5 + 1))) else (some false))) else (none)) else (none)) else (some true)
def laws_eqColS.f (k : Nat) (l0 : List (S82)) (l1 : List (S82)) : Option (Bool):=if (l0.length : Int) = (l1.length : Int) then (laws_eqColS.l0 k l0 l1 0) else (some false)
theorem laws_eqColS.mono_l : ∀ k,(∀ y0 y1 y2,LeO (laws_eqColS.l0 k y0 y1 y2) (laws_eqColS.l0 (k + 1) y0 y1 y2))
 | 0=>fun _ _ _ r h=>by simp [laws_eqColS.l0] at h
 | k + 1=>by
  have ih0:=laws_eqColS.mono_l k
  ·intro y0 y1 y2
   unfold laws_eqColS.l0
   repeat' first
   | (with_reducible exact ih0 _ _ _)
   | (with_reducible exact LeO.refl _)
   | (with_reducible exact LeO.none _)
   | (with_reducible refine LeO.ite ?_ ?_)
   | (with_reducible refine LeO.bind ?_ (fun _=>?_))
   | exact ih0 _ _ _
   | exact LeO.none _
   | refine LeO.ite ?_ ?_
   | refine LeO.bind ?_ (fun _=>?_)
theorem laws_eqColS.mono : ∀ a0 a1 k,LeO (laws_eqColS.f k a0 a1) (laws_eqColS.f (k + 1) a0 a1):=by
 intro a0 a1 k
 have ih0:=laws_eqColS.mono_l k
 unfold laws_eqColS.f
 repeat' first
   | (with_reducible exact ih0 _ _ _)
   | (with_reducible exact LeO.refl _)
   | (with_reducible exact LeO.none _)
   | (with_reducible refine LeO.ite ?_ ?_)
   | (with_reducible refine LeO.bind ?_ (fun _=>?_))
   | exact ih0 _ _ _
   | exact LeO.none _
   | refine LeO.ite ?_ ?_
   | refine LeO.bind ?_ (fun _=>?_)
def laws_eqColS.T6 : Bool × List (List Nat × List Nat):=(true,[([],[]),([],[]),([0,1],[0,1]),([2],[2]),([],[]),([],[]),([4,5],[4,5]),([6],[6]),([3,7],[3,7]),([8],[8])])
def laws_eqColS.B6 : List Nat:=[0,0,3,7,0,0,48,112,255,511]
theorem laws_eqColS.tab6 : rtab .any (opsOf Tryd.f76 6) = laws_eqColS.T6:=by kernel_rfl
theorem laws_eqColS.bits6 : waitsOk laws_eqColS.T6.2 laws_eqColS.B6 = true:=by kernel_rfl
set_option maxHeartbeats 8000000 in
set_option maxRecDepth 100000 in
theorem laws_eqColS.calls (k : Nat) (A0 : Option Addr) (c0 : Nat) (l0 : List (S82)) (A1 : Option Addr) (c1 : Nat) (l1 : List (S82)) (r : Bool) (w : World) (hr0 : Kd.C k82 w A0 l0.length l0) (hc0 : l0.length ≤ c0) (hr1 : Kd.C k82 w A1 l1.length l1) (hc1 : l1.length ≤ c1) (h : laws_eqColS.f k l0 l1 = some r) :
  Calls Tryd.prog 76 #[.slice A0 l0.length c0,.slice A1 l1.length c1] w fun e w'=>e = .returned (.bool r) ∧ Below w.heap.size w w':=by
 have hu82:=Tryd.underlying82
 have HR0:=aM_ hr0
 have HC0:=aM_ hc0
 clear hr0 hc0
 have HR1:=aM_ hr1
 have HC1:=aM_ hc1
 clear hr1 hc1
 have HB:=aM_ (Below.refl w.heap.size w)
 have H : (if (l0.length : Int) = (l1.length : Int) then (laws_eqColS.l0 k l0 l1 0) else (some false)) = some r:=h
 clear h
 by_cases c3 : (l0.length : Int) = (l1.length : Int)
 ·rw [if_pos c3] at H
  have c3b0 : ((l0.length : Int) == (l1.length : Int)) = true:=beq_iff_eq.mpr c3
  have c3b1 : ((l0.length : Int) != (l1.length : Int)) = false:=bne_eq_false_iff_eq.mpr c3
  have c3b2 : (l0.length == l1.length) = true:=by first | simpa using c3 | (simp at c3 ⊢;omega)
  clear c3
  have H':=aM_ H
  clear H
  go_enter Tryd.func76,Tryd.ntmps76
  go_wp2
  (try simp only [Act.put,sI_,sS_,sZ_])
  go_loopg [5] k (fun kq v5 w'=>∃ (x5_1 : Int),v5 = .int .i64 x5_1 ∧ Aside0 (laws_eqColS.l0 kq l0 l1 x5_1 = some r) ∧ Aside0 (kq ≤ k) ∧ Aside0 (Below w.heap.size w w'))
  case atStart=>exact ⟨(0),(by first | rfl | (simp;done) | (simp [*];done)),H', ⟨Nat.le_refl _⟩,⟨by exact bZ_ HB⟩⟩
  case round =>
   clear H'
   clear c3b0 c3b1 c3b2
   obtain ⟨x5_1,rfl,HA,HK1,HB⟩:=hrel
   cases gk with
   | zero=>exact absurd HA.out (by simp [laws_eqColS.l0])
   | succ k1 =>
    have H:=HA.out
    clear HA
    simp only [laws_eqColS.l0] at H
    by_cases c4 : x5_1 < (l0.length : Int)
    ·rw [if_pos c4] at H
     have c4b0 : decide (x5_1 < (l0.length : Int)) = true:=decide_eq_true c4
     clear c4
     by_cases c5 : 0 ≤ x5_1
     ·rw [if_pos c5] at H
      have c5b0 : decide (0 ≤ x5_1) = true:=decide_eq_true c5
      clear c5
      by_cases c6 : x5_1 < (l1.length : Int)
      ·rw [if_pos c6] at H
       have c6b0 : decide (x5_1 < (l1.length : Int)) = true:=decide_eq_true c6
       clear c6
       replace H:=oB_ H
       obtain ⟨t182,A70,H⟩:=H
       replace H : (if t182 = true then (laws_eqColS.l0 k1 l0 l1 (wrap64 (x5_1 + 1))) else (some false)) = some r:=H
       have A7:=aM_ A70
       clear A70
       by_cases c8 : t182 = true
       ·subst c8
        have H1 : (laws_eqColS.l0 k1 l0 l1 (wrap64 (x5_1 + 1))) = some r:=by rw [if_pos rfl] at H;exact H
        clear H
        have H:=H1
        clear H1
        have H':=aM_ H
        clear H
        try go_wp2
        have n0_:=aM_ (bD_ HB.out)
        clear HB
        have HB:=n0_
        clear n0_
        have p180 : 0 ≤ (x5_1 : Int):=oT_ (by first | (with_reducible assumption) | assumption)
        have q180 : x5_1 < (l0.length : Int):=oT_ (by first | (with_reducible assumption) | assumption)
        obtain ⟨ad180,e180,hx180_0,hx180_1,hx180_2⟩:=at_T82 HR0.out x5_1 p180 q180
        have hw180_2:=hx180_2
        have hw180_1:=hx180_1
        have hw180_0:=hx180_0
        cases e180
        replace hx180_0:=(HB.out.cell (wL_ w _ hx180_0)).trans hx180_0
        replace hx180_1:=(HB.out.cell (wL_ w _ hx180_1)).trans hx180_1
        replace hx180_2:=(HB.out.cell (wL_ w _ hx180_2)).trans hx180_2
        replace p180:=eq_true p180
        replace q180:=eq_true q180
        have p181 : 0 ≤ (x5_1 : Int):=oT_ (by first | (with_reducible assumption) | assumption)
        have q181 : x5_1 < (l1.length : Int):=oT_ (by first | (with_reducible assumption) | assumption)
        obtain ⟨ad181,e181,hx181_0,hx181_1,hx181_2⟩:=at_T82 HR1.out x5_1 p181 q181
        have hw181_2:=hx181_2
        have hw181_1:=hx181_1
        have hw181_0:=hx181_0
        cases e181
        replace hx181_0:=(HB.out.cell (wL_ w _ hx181_0)).trans hx181_0
        replace hx181_1:=(HB.out.cell (wL_ w _ hx181_1)).trans hx181_1
        replace hx181_2:=(HB.out.cell (wL_ w _ hx181_2)).trans hx181_2
        replace p181:=eq_true p181
        replace q181:=eq_true q181
        refine start_ (n:=10) (S:=fun w'=>w'.cell? (ad180.add ((x5_1).toNat * 3)) = some (.string ((rd_T82 l0 x5_1).f0)) ∧ w'.cell? ⟨(ad180.add ((x5_1).toNat * 3)).block,(ad180.add ((x5_1).toNat * 3)).off + 1,none⟩ = some (.int .i64 ((rd_T82 l0 x5_1).f1)) ∧ w'.cell? ⟨(ad180.add ((x5_1).toNat * 3)).block,(ad180.add ((x5_1).toNat * 3)).off + 2,none⟩ = some (.bool ((rd_T82 l0 x5_1).f2)) ∧ w'.cell? (ad181.add ((x5_1).toNat * 3)) = some (.string ((rd_T82 l1 x5_1).f0)) ∧ w'.cell? ⟨(ad181.add ((x5_1).toNat * 3)).block,(ad181.add ((x5_1).toNat * 3)).off + 1,none⟩ = some (.int .i64 ((rd_T82 l1 x5_1).f1)) ∧ w'.cell? ⟨(ad181.add ((x5_1).toNat * 3)).block,(ad181.add ((x5_1).toNat * 3)).off + 2,none⟩ = some (.bool ((rd_T82 l1 x5_1).f2))) (ds:=[]) (tb_ 0 10) (by kernel_rfl) rfl rfl ⟨((HB.out.cell (wL_ w _ hw180_0)).trans hw180_0),((HB.out.cell (wL_ w _ hw180_1)).trans hw180_1),((HB.out.cell (wL_ w _ hw180_2)).trans hw180_2),((HB.out.cell (wL_ w _ hw181_0)).trans hw181_0),((HB.out.cell (wL_ w _ hw181_1)).trans hw181_1),((HB.out.cell (wL_ w _ hw181_2)).trans hw181_2)⟩ (fun hHeld=>?_);refine with_tabW laws_eqColS.tab6 laws_eqColS.bits6 (fun HT_ HW_=>?_)
        generalize wr.drew = w9 at HB hx180_0 hx180_1 hx180_2 hx181_0 hx181_1 hx181_2 hHeld ⊢
        refine pure_ (i:=0) (N:=some 17) (v:=?_) (a':=?_) (tb_ 1 9) rfl rfl (any_of HT_.out (by kernel_rfl)) (fun _ _ _ h=>h) (Or.inl ⟨by rfl,?_⟩) ?_ ?_
        rotate_left
        ·intro w'
         go_simp
         with_reducible rfl
        rotate_left
        ·simp only [Act.put,sI_,sZ_,sS_,i64_w,i32_w]
         rfl
        refine pure_ (i:=1) (N:=some 18) (v:=?_) (a':=?_) (tb_ 2 8) rfl rfl (any_of HT_.out (by kernel_rfl)) (fun _ _ _ h=>h) (Or.inl ⟨by rfl,?_⟩) ?_ ?_
        rotate_left
        ·intro w'
         go_simp
         with_reducible rfl
        rotate_left
        ·simp only [Act.put,sI_,sZ_,sS_,i64_w,i32_w]
         rfl
        refine pure_ (i:=2) (N:=some 19) (v:=?_) (a':=?_) (tb_ 3 7) rfl rfl (any_of HT_.out (by kernel_rfl)) (fun _ _ _ h=>h) (Or.inl ⟨by rfl,?_⟩) ?_ ?_
        rotate_left
        ·intro w'
         go_simp
         with_reducible rfl
        rotate_left
        ·simp only [Act.put,sI_,sZ_,sS_,i64_w,i32_w]
         rfl
        refine pure_ (i:=4) (N:=some 21) (v:=?_) (a':=?_) #[true,true,true,false,true,false,false,false,false,false] rfl rfl (any_of HT_.out (by kernel_rfl)) (fun _ _ _ h=>h) (Or.inl ⟨by rfl,?_⟩) ?_ ?_
        rotate_left
        ·intro w'
         go_simp
         with_reducible rfl
        rotate_left
        ·simp only [Act.put,sI_,sZ_,sS_,i64_w,i32_w]
         rfl
        refine pure_ (i:=5) (N:=some 22) (v:=?_) (a':=?_) #[true,true,true,false,true,true,false,false,false,false] rfl rfl (any_of HT_.out (by kernel_rfl)) (fun _ _ _ h=>h) (Or.inl ⟨by rfl,?_⟩) ?_ ?_
        rotate_left
        ·intro w'
         go_simp
         with_reducible rfl
        rotate_left
        ·simp only [Act.put,sI_,sZ_,sS_,i64_w,i32_w]
         rfl
        refine pure_ (i:=6) (N:=some 23) (v:=?_) (a':=?_) #[true,true,true,false,true,true,true,false,false,false] rfl rfl (any_of HT_.out (by kernel_rfl)) (fun _ _ _ h=>h) (Or.inl ⟨by rfl,?_⟩) ?_ ?_
        rotate_left
        ·intro w'
         go_simp
         with_reducible rfl
        rotate_left
        ·simp only [Act.put,sI_,sZ_,sS_,i64_w,i32_w]
         rfl
        refine take_ (i:=3) (N:=some 20) (v:=?_) (a':=?_) (tb_ 7 3) rfl rfl (take_ofW HT_.out HW_.out (by kernel_rfl)) (fun _ _ _ h=>h) (Or.inl ⟨by rfl,?_⟩) hHeld ?_ ?_
        rotate_left
        ·rintro w' ⟨s0,s1,s2,s3,s4,s5⟩
         go_simp
         with_reducible rfl
        rotate_left
        ·simp only [Act.put,sI_,sZ_,sS_,i64_w,i32_w]
         rfl
        refine take_ (i:=7) (N:=some 24) (v:=?_) (a':=?_) (tb_ 8 2) rfl rfl (take_ofW HT_.out HW_.out (by kernel_rfl)) (fun _ _ _ h=>h) (Or.inl ⟨by rfl,?_⟩) hHeld ?_ ?_
        rotate_left
        ·rintro w' ⟨s0,s1,s2,s3,s4,s5⟩
         go_simp
         with_reducible rfl
        rotate_left
        ·simp only [Act.put,sI_,sZ_,sS_,i64_w,i32_w]
         rfl
        refine one_ (i:=8) (N:=some 25) (tb_ 9 1) rfl rfl (one_of HT_.out (by kernel_rfl)) (by decide) (fun K hK=>?_)
        refine goes_ Tryd.func117 (by kernel_rfl) rfl #[.agg #[.string ((rd_T82 l0 x5_1).f0),.int .i64 ((rd_T82 l0 x5_1).f1),.bool ((rd_T82 l0 x5_1).f2)],.agg #[.string ((rd_T82 l1 x5_1).f0),.int .i64 ((rd_T82 l1 x5_1).f1),.bool ((rd_T82 l1 x5_1).f2)]] (by rfl) rfl rfl (by (try simp only [mA_,mC_,mN_]);first | done | rfl | (simp only [lD_,lT_];rfl)) ?_
        with_reducible refine (laws_eqCol.calls ((rd_T82 l0 x5_1).f0) ((rd_T82 l0 x5_1).f1) ((rd_T82 l0 x5_1).f2) ((rd_T82 l1 x5_1).f0) ((rd_T82 l1 x5_1).f1) ((rd_T82 l1 x5_1).f2) true _ A7.out).mono ?_
        rintro e w10 ⟨rfl,hb⟩
        refine ⟨_,rfl,?_⟩
        have n0_:=aM_ (bT_ (by exact bZ_ HB) hb)
        clear HB
        have HB:=n0_
        clear n0_ hb
        skip
        skip
        skip
        refine hK.out _ _ ⟨((HB.out.cell (wL_ w _ hw180_0)).trans hw180_0),((HB.out.cell (wL_ w _ hw180_1)).trans hw180_1),((HB.out.cell (wL_ w _ hw180_2)).trans hw180_2),((HB.out.cell (wL_ w _ hw181_0)).trans hw181_0),((HB.out.cell (wL_ w _ hw181_1)).trans hw181_1),((HB.out.cell (wL_ w _ hw181_2)).trans hw181_2)⟩ (fun hHeld=>?_)
        clear hK K
        refine norm_ (a':=?_) ?_ ?_
        rotate_left
        ·show Act.put _ (some 25) _ = _
         simp only [Act.put,sI_,sZ_,sS_,i64_w,i32_w]
         rfl
        refine pure_ (i:=9) (N:=some 26) (v:=?_) (a':=?_) (tb_ 10 0) rfl rfl (any_of HT_.out (by kernel_rfl)) (fun _ _ _ h=>h) (Or.inl ⟨by rfl,?_⟩) ?_ ?_
        rotate_left
        ·intro w'
         go_simp
         with_reducible rfl
        rotate_left
        ·simp only [Act.put,sI_,sZ_,sS_,i64_w,i32_w]
         rfl
        refine done_ (done_of HT_.out (by kernel_rfl)) ?_
        try go_wp2
        go_roundg k1
        case measure=>have:=HK1.out;omega
        case rel=>exact ⟨(wrap64 (x5_1 + 1)),(by first | rfl | (simp;done) | (simp [*];done)),H', ⟨by have:=HK1.out;omega⟩,⟨by exact bZ_ HB⟩⟩
       ·replace c8:=Bool.eq_false_iff.mpr c8
        subst c8
        have H1 : (some false) = some r:=by rw [if_neg (show ¬ (false = true) by decide)] at H;exact H
        clear H
        have H:=H1
        clear H1
        obtain rfl:=Option.some.inj H
        try go_wp2
        have n0_:=aM_ (bD_ HB.out)
        clear HB
        have HB:=n0_
        clear n0_
        have p180 : 0 ≤ (x5_1 : Int):=oT_ (by first | (with_reducible assumption) | assumption)
        have q180 : x5_1 < (l0.length : Int):=oT_ (by first | (with_reducible assumption) | assumption)
        obtain ⟨ad180,e180,hx180_0,hx180_1,hx180_2⟩:=at_T82 HR0.out x5_1 p180 q180
        have hw180_2:=hx180_2
        have hw180_1:=hx180_1
        have hw180_0:=hx180_0
        cases e180
        replace hx180_0:=(HB.out.cell (wL_ w _ hx180_0)).trans hx180_0
        replace hx180_1:=(HB.out.cell (wL_ w _ hx180_1)).trans hx180_1
        replace hx180_2:=(HB.out.cell (wL_ w _ hx180_2)).trans hx180_2
        replace p180:=eq_true p180
        replace q180:=eq_true q180
        have p181 : 0 ≤ (x5_1 : Int):=oT_ (by first | (with_reducible assumption) | assumption)
        have q181 : x5_1 < (l1.length : Int):=oT_ (by first | (with_reducible assumption) | assumption)
        obtain ⟨ad181,e181,hx181_0,hx181_1,hx181_2⟩:=at_T82 HR1.out x5_1 p181 q181
        have hw181_2:=hx181_2
        have hw181_1:=hx181_1
        have hw181_0:=hx181_0
        cases e181
        replace hx181_0:=(HB.out.cell (wL_ w _ hx181_0)).trans hx181_0
        replace hx181_1:=(HB.out.cell (wL_ w _ hx181_1)).trans hx181_1
        replace hx181_2:=(HB.out.cell (wL_ w _ hx181_2)).trans hx181_2
        replace p181:=eq_true p181
        replace q181:=eq_true q181
        refine start_ (n:=10) (S:=fun w'=>w'.cell? (ad180.add ((x5_1).toNat * 3)) = some (.string ((rd_T82 l0 x5_1).f0)) ∧ w'.cell? ⟨(ad180.add ((x5_1).toNat * 3)).block,(ad180.add ((x5_1).toNat * 3)).off + 1,none⟩ = some (.int .i64 ((rd_T82 l0 x5_1).f1)) ∧ w'.cell? ⟨(ad180.add ((x5_1).toNat * 3)).block,(ad180.add ((x5_1).toNat * 3)).off + 2,none⟩ = some (.bool ((rd_T82 l0 x5_1).f2)) ∧ w'.cell? (ad181.add ((x5_1).toNat * 3)) = some (.string ((rd_T82 l1 x5_1).f0)) ∧ w'.cell? ⟨(ad181.add ((x5_1).toNat * 3)).block,(ad181.add ((x5_1).toNat * 3)).off + 1,none⟩ = some (.int .i64 ((rd_T82 l1 x5_1).f1)) ∧ w'.cell? ⟨(ad181.add ((x5_1).toNat * 3)).block,(ad181.add ((x5_1).toNat * 3)).off + 2,none⟩ = some (.bool ((rd_T82 l1 x5_1).f2))) (ds:=[]) (tb_ 0 10) (by kernel_rfl) rfl rfl ⟨((HB.out.cell (wL_ w _ hw180_0)).trans hw180_0),((HB.out.cell (wL_ w _ hw180_1)).trans hw180_1),((HB.out.cell (wL_ w _ hw180_2)).trans hw180_2),((HB.out.cell (wL_ w _ hw181_0)).trans hw181_0),((HB.out.cell (wL_ w _ hw181_1)).trans hw181_1),((HB.out.cell (wL_ w _ hw181_2)).trans hw181_2)⟩ (fun hHeld=>?_);refine with_tabW laws_eqColS.tab6 laws_eqColS.bits6 (fun HT_ HW_=>?_)
        generalize wr.drew = w11 at HB hx180_0 hx180_1 hx180_2 hx181_0 hx181_1 hx181_2 hHeld ⊢
        refine pure_ (i:=0) (N:=some 17) (v:=?_) (a':=?_) (tb_ 1 9) rfl rfl (any_of HT_.out (by kernel_rfl)) (fun _ _ _ h=>h) (Or.inl ⟨by rfl,?_⟩) ?_ ?_
        rotate_left
        ·intro w'
         go_simp
         with_reducible rfl
        rotate_left
        ·simp only [Act.put,sI_,sZ_,sS_,i64_w,i32_w]
         rfl
        refine pure_ (i:=1) (N:=some 18) (v:=?_) (a':=?_) (tb_ 2 8) rfl rfl (any_of HT_.out (by kernel_rfl)) (fun _ _ _ h=>h) (Or.inl ⟨by rfl,?_⟩) ?_ ?_
        rotate_left
        ·intro w'
         go_simp
         with_reducible rfl
        rotate_left
        ·simp only [Act.put,sI_,sZ_,sS_,i64_w,i32_w]
         rfl
        refine pure_ (i:=2) (N:=some 19) (v:=?_) (a':=?_) (tb_ 3 7) rfl rfl (any_of HT_.out (by kernel_rfl)) (fun _ _ _ h=>h) (Or.inl ⟨by rfl,?_⟩) ?_ ?_
        rotate_left
        ·intro w'
         go_simp
         with_reducible rfl
        rotate_left
        ·simp only [Act.put,sI_,sZ_,sS_,i64_w,i32_w]
         rfl
        refine pure_ (i:=4) (N:=some 21) (v:=?_) (a':=?_) #[true,true,true,false,true,false,false,false,false,false] rfl rfl (any_of HT_.out (by kernel_rfl)) (fun _ _ _ h=>h) (Or.inl ⟨by rfl,?_⟩) ?_ ?_
        rotate_left
        ·intro w'
         go_simp
         with_reducible rfl
        rotate_left
        ·simp only [Act.put,sI_,sZ_,sS_,i64_w,i32_w]
         rfl
        refine pure_ (i:=5) (N:=some 22) (v:=?_) (a':=?_) #[true,true,true,false,true,true,false,false,false,false] rfl rfl (any_of HT_.out (by kernel_rfl)) (fun _ _ _ h=>h) (Or.inl ⟨by rfl,?_⟩) ?_ ?_
        rotate_left
        ·intro w'
         go_simp
         with_reducible rfl
        rotate_left
        ·simp only [Act.put,sI_,sZ_,sS_,i64_w,i32_w]
         rfl
        refine pure_ (i:=6) (N:=some 23) (v:=?_) (a':=?_) #[true,true,true,false,true,true,true,false,false,false] rfl rfl (any_of HT_.out (by kernel_rfl)) (fun _ _ _ h=>h) (Or.inl ⟨by rfl,?_⟩) ?_ ?_
        rotate_left
        ·intro w'
         go_simp
         with_reducible rfl
        rotate_left
        ·simp only [Act.put,sI_,sZ_,sS_,i64_w,i32_w]
         rfl
        refine take_ (i:=3) (N:=some 20) (v:=?_) (a':=?_) (tb_ 7 3) rfl rfl (take_ofW HT_.out HW_.out (by kernel_rfl)) (fun _ _ _ h=>h) (Or.inl ⟨by rfl,?_⟩) hHeld ?_ ?_
        rotate_left
        ·rintro w' ⟨s0,s1,s2,s3,s4,s5⟩
         go_simp
         with_reducible rfl
        rotate_left
        ·simp only [Act.put,sI_,sZ_,sS_,i64_w,i32_w]
         rfl
        refine take_ (i:=7) (N:=some 24) (v:=?_) (a':=?_) (tb_ 8 2) rfl rfl (take_ofW HT_.out HW_.out (by kernel_rfl)) (fun _ _ _ h=>h) (Or.inl ⟨by rfl,?_⟩) hHeld ?_ ?_
        rotate_left
        ·rintro w' ⟨s0,s1,s2,s3,s4,s5⟩
         go_simp
         with_reducible rfl
        rotate_left
        ·simp only [Act.put,sI_,sZ_,sS_,i64_w,i32_w]
         rfl
        refine one_ (i:=8) (N:=some 25) (tb_ 9 1) rfl rfl (one_of HT_.out (by kernel_rfl)) (by decide) (fun K hK=>?_)
        refine goes_ Tryd.func117 (by kernel_rfl) rfl #[.agg #[.string ((rd_T82 l0 x5_1).f0),.int .i64 ((rd_T82 l0 x5_1).f1),.bool ((rd_T82 l0 x5_1).f2)],.agg #[.string ((rd_T82 l1 x5_1).f0),.int .i64 ((rd_T82 l1 x5_1).f1),.bool ((rd_T82 l1 x5_1).f2)]] (by rfl) rfl rfl (by (try simp only [mA_,mC_,mN_]);first | done | rfl | (simp only [lD_,lT_];rfl)) ?_
        with_reducible refine (laws_eqCol.calls ((rd_T82 l0 x5_1).f0) ((rd_T82 l0 x5_1).f1) ((rd_T82 l0 x5_1).f2) ((rd_T82 l1 x5_1).f0) ((rd_T82 l1 x5_1).f1) ((rd_T82 l1 x5_1).f2) false _ A7.out).mono ?_
        rintro e w12 ⟨rfl,hb⟩
        refine ⟨_,rfl,?_⟩
        have n0_:=aM_ (bT_ (by exact bZ_ HB) hb)
        clear HB
        have HB:=n0_
        clear n0_ hb
        skip
        skip
        skip
        refine hK.out _ _ ⟨((HB.out.cell (wL_ w _ hw180_0)).trans hw180_0),((HB.out.cell (wL_ w _ hw180_1)).trans hw180_1),((HB.out.cell (wL_ w _ hw180_2)).trans hw180_2),((HB.out.cell (wL_ w _ hw181_0)).trans hw181_0),((HB.out.cell (wL_ w _ hw181_1)).trans hw181_1),((HB.out.cell (wL_ w _ hw181_2)).trans hw181_2)⟩ (fun hHeld=>?_)
        clear hK K
        refine norm_ (a':=?_) ?_ ?_
        rotate_left
        ·show Act.put _ (some 25) _ = _
         simp only [Act.put,sI_,sZ_,sS_,i64_w,i32_w]
         rfl
        refine pure_ (i:=9) (N:=some 26) (v:=?_) (a':=?_) (tb_ 10 0) rfl rfl (any_of HT_.out (by kernel_rfl)) (fun _ _ _ h=>h) (Or.inl ⟨by rfl,?_⟩) ?_ ?_
        rotate_left
        ·intro w'
         go_simp
         with_reducible rfl
        rotate_left
        ·simp only [Act.put,sI_,sZ_,sS_,i64_w,i32_w]
         rfl
        refine done_ (done_of HT_.out (by kernel_rfl)) ?_
        try go_wp2
        go_ret
        exact ⟨by first | rfl | (simp [errW_none,errW_some] <;> rfl) | (simp [*, errW_none,errW_some] <;> rfl),by exact bZ_ HB⟩
      ·rw [if_neg c6] at H
       exact absurd H (by simp)
     ·rw [if_neg c5] at H
      exact absurd H (by simp)
    ·rw [if_neg c4] at H
     have c4b0 : decide (x5_1 < (l0.length : Int)) = false:=decide_eq_false c4
     clear c4
     obtain rfl:=Option.some.inj H
     go_wp2
     go_ret
     exact ⟨by first | rfl | (simp [errW_none,errW_some] <;> rfl) | (simp [*, errW_none,errW_some] <;> rfl),by exact bZ_ HB⟩
 ·rw [if_neg c3] at H
  have c3b0 : ((l0.length : Int) == (l1.length : Int)) = false:=beq_eq_false_iff_ne.mpr c3
  have c3b1 : ((l0.length : Int) != (l1.length : Int)) = true:=bne_iff_ne.mpr c3
  have c3b2 : (l0.length == l1.length) = false:=by first | simpa using c3 | (simp at c3 ⊢;omega)
  obtain rfl:=Option.some.inj H
  go_enter Tryd.func76,Tryd.ntmps76
  go_wp2
  go_ret
  exact ⟨by first | rfl | (simp [errW_none,errW_some] <;> rfl) | (simp [*, errW_none,errW_some] <;> rfl),by exact bZ_ HB⟩
def laws_eqBy.f (a0_0 : Int) (a0_1 : Bool) (a1_0 : Int) (a1_1 : Bool) : Option (Bool):=if a0_0 = a1_0 then (if (a0_1 != a1_1) = true then (some false) else (some true)) else (some false)
set_option maxHeartbeats 8000000 in
set_option maxRecDepth 100000 in
theorem laws_eqBy.calls (a0_0 : Int) (a0_1 : Bool) (a1_0 : Int) (a1_1 : Bool) (r : Bool) (w : World) (h : laws_eqBy.f a0_0 a0_1 a1_0 a1_1 = some r) :
  Calls Tryd.prog 118 #[.agg #[.int .i64 a0_0,.bool a0_1],.agg #[.int .i64 a1_0,.bool a1_1]] w fun e w'=>e = .returned (.bool r) ∧ Below w.heap.size w w':=by
 have hu85:=Tryd.underlying85
 have HB:=aM_ (Below.refl w.heap.size w)
 have H : (if a0_0 = a1_0 then (if (a0_1 != a1_1) = true then (some false) else (some true)) else (some false)) = some r:=h
 clear h
 by_cases c3 : a0_0 = a1_0
 ·rw [if_pos c3] at H
  have c3b0 : (a0_0 == a1_0) = true:=beq_iff_eq.mpr c3
  have c3b1 : (a0_0 != a1_0) = false:=bne_eq_false_iff_eq.mpr c3
  clear c3
  by_cases c4 : (a0_1 != a1_1) = true
  ·rw [if_pos c4] at H
   have c4b0 : (a0_1 != a1_1) = true:=c4
   (try (have c4b1 : decide (a0_1 = a1_1) = false:=by simpa using c4))
   (try (have c4b2 : (a0_1 == a1_1) = false:=by simpa using c4))
   (try (have c4b3 : ¬ (a0_1 = a1_1):=by simpa using c4))
   clear c4
   obtain rfl:=Option.some.inj H
   go_enter Tryd.func118,Tryd.ntmps118
   go_wp2_with (first | ((with_reducible refine gate_dst (N:=2) rfl ?_);refine box_event ?hg (N:=2) ?hd (cs:=#[.int .i64 a0_0,.bool a0_1]) (t:=85) ?hr ?_;(case hd=>rfl);(case hg=>rfl);(case hr=>first | (go_simp;done) | (go_simp;rfl));intro gb183 hg w5 hbox hb;have n0_:=aM_ (bT_ (by exact bZ_ HB) hb);have n1_:=aM_ (hbox);have n2_:=aM_ ((by rw [hg];exact (bS_ (by exact bZ_ HB)) : w.heap.size ≤ gb183));have n3_:=aM_ ((by rw [hg];exact (bS_ (by exact bZ_ HB)) : w.heap.size ≤ gb183));clear HB;have HB:=n0_;have BK183:=n1_;have GW183:=n2_;have GE183:=n3_;clear n0_ n1_ n2_ n3_ hb hbox hg) | ((with_reducible refine gate_dst (N:=3) rfl ?_);refine box_event ?hg (N:=3) ?hd (cs:=#[.int .i64 a1_0,.bool a1_1]) (t:=85) ?hr ?_;(case hd=>rfl);(case hg=>rfl);(case hr=>first | (go_simp;done) | (go_simp;rfl));intro gb184 hg w6 hbox hb;have n0_:=aM_ (blk_below (g:=gb183) (o:=.cells #[.int .i64 a0_0,.bool a0_1] 85 (0,0)) (by exact kZ_ BK183) hb);have n1_:=aM_ (bT_ (by exact bZ_ HB) hb);have n2_:=aM_ (hbox);have n3_:=aM_ ((by rw [hg];exact (bS_ (by exact bZ_ HB)) : w.heap.size ≤ gb184));have n4_:=aM_ ((by rw [hg];exact (bS_ (by exact bZ_ HB)) : w.heap.size ≤ gb184));have n5_:=aM_ ((by rw [hg];exact nN_ (blk_lt (g:=gb183) (o:=.cells #[.int .i64 a0_0,.bool a0_1] 85 (0,0)) (by exact kZ_ BK183)) : gb183 ≠ gb184));have n6_:=aM_ ((by rw [hg];exact Nat.ne_of_gt (blk_lt (g:=gb183) (o:=.cells #[.int .i64 a0_0,.bool a0_1] 85 (0,0)) (by exact kZ_ BK183)) : gb184 ≠ gb183));clear BK183 HB;have BK183:=n0_;have HB:=n1_;have BK184:=n2_;have GW184:=n3_;have GE184:=n4_;have NB183_184:=n5_;have NB184_183:=n6_;clear n0_ n1_ n2_ n3_ n4_ n5_ n6_ hb hbox hg;have hnb7:=NB183_184.out;have hnc7:=NB184_183.out;have hcz8_0 : w6.cell? ⟨gb183,0,none⟩ = some (.int .i64 a0_0):=(kC_ BK183.out 0).trans rfl;have hcz8_1 : w6.cell? ⟨gb183,1,none⟩ = some (.bool a0_1):=(kC_ BK183.out 1).trans rfl;have hfz8_0:=kF_ BK183.out 0;have hfz8_1:=kF_ BK183.out 1;have hcz9_0 : w6.cell? ⟨gb184,0,none⟩ = some (.int .i64 a1_0):=(kC_ BK184.out 0).trans rfl;have hcz9_1 : w6.cell? ⟨gb184,1,none⟩ = some (.bool a1_1):=(kC_ BK184.out 1).trans rfl;have hfz9_0:=kF_ BK184.out 0;have hfz9_1:=kF_ BK184.out 1))
   go_ret
   exact ⟨by first | rfl | (simp [errW_none,errW_some] <;> rfl) | (simp [*, errW_none,errW_some] <;> rfl),by exact bZ_ HB⟩
  ·rw [if_neg c4] at H
   have c4b0 : (a0_1 != a1_1) = false:=by simpa using c4
   (try (have c4b1 : decide (a0_1 = a1_1) = true:=by simpa using c4))
   (try (have c4b2 : (a0_1 == a1_1) = true:=by simpa using c4))
   clear c4
   obtain rfl:=Option.some.inj H
   go_enter Tryd.func118,Tryd.ntmps118
   go_wp2_with (first | ((with_reducible refine gate_dst (N:=2) rfl ?_);refine box_event ?hg (N:=2) ?hd (cs:=#[.int .i64 a0_0,.bool a0_1]) (t:=85) ?hr ?_;(case hd=>rfl);(case hg=>rfl);(case hr=>first | (go_simp;done) | (go_simp;rfl));intro gb183 hg w10 hbox hb;have n0_:=aM_ (bT_ (by exact bZ_ HB) hb);have n1_:=aM_ (hbox);have n2_:=aM_ ((by rw [hg];exact (bS_ (by exact bZ_ HB)) : w.heap.size ≤ gb183));have n3_:=aM_ ((by rw [hg];exact (bS_ (by exact bZ_ HB)) : w.heap.size ≤ gb183));clear HB;have HB:=n0_;have BK183:=n1_;have GW183:=n2_;have GE183:=n3_;clear n0_ n1_ n2_ n3_ hb hbox hg) | ((with_reducible refine gate_dst (N:=3) rfl ?_);refine box_event ?hg (N:=3) ?hd (cs:=#[.int .i64 a1_0,.bool a1_1]) (t:=85) ?hr ?_;(case hd=>rfl);(case hg=>rfl);(case hr=>first | (go_simp;done) | (go_simp;rfl));intro gb184 hg w11 hbox hb;have n0_:=aM_ (blk_below (g:=gb183) (o:=.cells #[.int .i64 a0_0,.bool a0_1] 85 (0,0)) (by exact kZ_ BK183) hb);have n1_:=aM_ (bT_ (by exact bZ_ HB) hb);have n2_:=aM_ (hbox);have n3_:=aM_ ((by rw [hg];exact (bS_ (by exact bZ_ HB)) : w.heap.size ≤ gb184));have n4_:=aM_ ((by rw [hg];exact (bS_ (by exact bZ_ HB)) : w.heap.size ≤ gb184));have n5_:=aM_ ((by rw [hg];exact nN_ (blk_lt (g:=gb183) (o:=.cells #[.int .i64 a0_0,.bool a0_1] 85 (0,0)) (by exact kZ_ BK183)) : gb183 ≠ gb184));have n6_:=aM_ ((by rw [hg];exact Nat.ne_of_gt (blk_lt (g:=gb183) (o:=.cells #[.int .i64 a0_0,.bool a0_1] 85 (0,0)) (by exact kZ_ BK183)) : gb184 ≠ gb183));clear BK183 HB;have BK183:=n0_;have HB:=n1_;have BK184:=n2_;have GW184:=n3_;have GE184:=n4_;have NB183_184:=n5_;have NB184_183:=n6_;clear n0_ n1_ n2_ n3_ n4_ n5_ n6_ hb hbox hg;have hnb12:=NB183_184.out;have hnc12:=NB184_183.out;have hcz13_0 : w11.cell? ⟨gb183,0,none⟩ = some (.int .i64 a0_0):=(kC_ BK183.out 0).trans rfl;have hcz13_1 : w11.cell? ⟨gb183,1,none⟩ = some (.bool a0_1):=(kC_ BK183.out 1).trans rfl;have hfz13_0:=kF_ BK183.out 0;have hfz13_1:=kF_ BK183.out 1;have hcz14_0 : w11.cell? ⟨gb184,0,none⟩ = some (.int .i64 a1_0):=(kC_ BK184.out 0).trans rfl;have hcz14_1 : w11.cell? ⟨gb184,1,none⟩ = some (.bool a1_1):=(kC_ BK184.out 1).trans rfl;have hfz14_0:=kF_ BK184.out 0;have hfz14_1:=kF_ BK184.out 1))
   go_ret
   exact ⟨by first | rfl | (simp [errW_none,errW_some] <;> rfl) | (simp [*, errW_none,errW_some] <;> rfl),by exact bZ_ HB⟩
 ·rw [if_neg c3] at H
  have c3b0 : (a0_0 == a1_0) = false:=beq_eq_false_iff_ne.mpr c3
  have c3b1 : (a0_0 != a1_0) = true:=bne_iff_ne.mpr c3
  obtain rfl:=Option.some.inj H
  go_enter Tryd.func118,Tryd.ntmps118
  go_wp2_with (first | ((with_reducible refine gate_dst (N:=2) rfl ?_);refine box_event ?hg (N:=2) ?hd (cs:=#[.int .i64 a0_0,.bool a0_1]) (t:=85) ?hr ?_;(case hd=>rfl);(case hg=>rfl);(case hr=>first | (go_simp;done) | (go_simp;rfl));intro gb183 hg w15 hbox hb;have n0_:=aM_ (bT_ (by exact bZ_ HB) hb);have n1_:=aM_ (hbox);have n2_:=aM_ ((by rw [hg];exact (bS_ (by exact bZ_ HB)) : w.heap.size ≤ gb183));have n3_:=aM_ ((by rw [hg];exact (bS_ (by exact bZ_ HB)) : w.heap.size ≤ gb183));clear HB;have HB:=n0_;have BK183:=n1_;have GW183:=n2_;have GE183:=n3_;clear n0_ n1_ n2_ n3_ hb hbox hg) | ((with_reducible refine gate_dst (N:=3) rfl ?_);refine box_event ?hg (N:=3) ?hd (cs:=#[.int .i64 a1_0,.bool a1_1]) (t:=85) ?hr ?_;(case hd=>rfl);(case hg=>rfl);(case hr=>first | (go_simp;done) | (go_simp;rfl));intro gb184 hg w16 hbox hb;have n0_:=aM_ (blk_below (g:=gb183) (o:=.cells #[.int .i64 a0_0,.bool a0_1] 85 (0,0)) (by exact kZ_ BK183) hb);have n1_:=aM_ (bT_ (by exact bZ_ HB) hb);have n2_:=aM_ (hbox);have n3_:=aM_ ((by rw [hg];exact (bS_ (by exact bZ_ HB)) : w.heap.size ≤ gb184));have n4_:=aM_ ((by rw [hg];exact (bS_ (by exact bZ_ HB)) : w.heap.size ≤ gb184));have n5_:=aM_ ((by rw [hg];exact nN_ (blk_lt (g:=gb183) (o:=.cells #[.int .i64 a0_0,.bool a0_1] 85 (0,0)) (by exact kZ_ BK183)) : gb183 ≠ gb184));have n6_:=aM_ ((by rw [hg];exact Nat.ne_of_gt (blk_lt (g:=gb183) (o:=.cells #[.int .i64 a0_0,.bool a0_1] 85 (0,0)) (by exact kZ_ BK183)) : gb184 ≠ gb183));clear BK183 HB;have BK183:=n0_;have HB:=n1_;have BK184:=n2_;have GW184:=n3_;have GE184:=n4_;have NB183_184:=n5_;have NB184_183:=n6_;clear n0_ n1_ n2_ n3_ n4_ n5_ n6_ hb hbox hg;have hnb17:=NB183_184.out;have hnc17:=NB184_183.out;have hcz18_0 : w16.cell? ⟨gb183,0,none⟩ = some (.int .i64 a0_0):=(kC_ BK183.out 0).trans rfl;have hcz18_1 : w16.cell? ⟨gb183,1,none⟩ = some (.bool a0_1):=(kC_ BK183.out 1).trans rfl;have hfz18_0:=kF_ BK183.out 0;have hfz18_1:=kF_ BK183.out 1;have hcz19_0 : w16.cell? ⟨gb184,0,none⟩ = some (.int .i64 a1_0):=(kC_ BK184.out 0).trans rfl;have hcz19_1 : w16.cell? ⟨gb184,1,none⟩ = some (.bool a1_1):=(kC_ BK184.out 1).trans rfl;have hfz19_0:=kF_ BK184.out 0;have hfz19_1:=kF_ BK184.out 1))
  go_ret
  exact ⟨by first | rfl | (simp [errW_none,errW_some] <;> rfl) | (simp [*, errW_none,errW_some] <;> rfl),by exact bZ_ HB⟩
def laws_eqByS.l0 : Nat → List (S85) → List (S85) → Int → Option (Bool)
 | 0,_,_,_=>none
 | k + 1,x0,x1,x5=>if x5 < (x0.length : Int) then (if 0 ≤ x5 then (if x5 < (x1.length : Int) then ((laws_eqBy.f ((rd_T85 x0 x5).f0) ((rd_T85 x0 x5).f1) ((rd_T85 x1 x5).f0) ((rd_T85 x1 x5).f1)).bind fun t187=>(if t187 = true then (laws_eqByS.l0 k x0 x1 (wrap64 (x5 + 1))) else (some false))) else (none)) else (none)) else (some true)
def laws_eqByS.f (k : Nat) (l0 : List (S85)) (l1 : List (S85)) : Option (Bool):=if (l0.length : Int) = (l1.length : Int) then (laws_eqByS.l0 k l0 l1 0) else (some false)
theorem laws_eqByS.mono_l : ∀ k,(∀ y0 y1 y2,LeO (laws_eqByS.l0 k y0 y1 y2) (laws_eqByS.l0 (k + 1) y0 y1 y2))
 | 0=>fun _ _ _ r h=>by simp [laws_eqByS.l0] at h
 | k + 1=>by
  have ih0:=laws_eqByS.mono_l k
  ·intro y0 y1 y2
   unfold laws_eqByS.l0
   repeat' first
   | (with_reducible exact ih0 _ _ _)
   | (with_reducible exact LeO.refl _)
   | (with_reducible exact LeO.none _)
   | (with_reducible refine LeO.ite ?_ ?_)
   | (with_reducible refine LeO.bind ?_ (fun _=>?_))
   | exact ih0 _ _ _
   | exact LeO.none _
   | refine LeO.ite ?_ ?_
   | refine LeO.bind ?_ (fun _=>?_)
theorem laws_eqByS.mono : ∀ a0 a1 k,LeO (laws_eqByS.f k a0 a1) (laws_eqByS.f (k + 1) a0 a1):=by
 intro a0 a1 k
 have ih0:=laws_eqByS.mono_l k
 unfold laws_eqByS.f
 repeat' first
   | (with_reducible exact ih0 _ _ _)
   | (with_reducible exact LeO.refl _)
   | (with_reducible exact LeO.none _)
   | (with_reducible refine LeO.ite ?_ ?_)
   | (with_reducible refine LeO.bind ?_ (fun _=>?_))
   | exact ih0 _ _ _
   | exact LeO.none _
   | refine LeO.ite ?_ ?_
   | refine LeO.bind ?_ (fun _=>?_)
def laws_eqByS.T6 : Bool × List (List Nat × List Nat):=(true,[([],[]),([],[]),([0,1],[0,1]),([2],[2]),([],[]),([],[]),([4,5],[4,5]),([6],[6]),([3,7],[3,7]),([8],[8])])
def laws_eqByS.B6 : List Nat:=[0,0,3,7,0,0,48,112,255,511]
theorem laws_eqByS.tab6 : rtab .any (opsOf Tryd.f77 6) = laws_eqByS.T6:=by kernel_rfl
theorem laws_eqByS.bits6 : waitsOk laws_eqByS.T6.2 laws_eqByS.B6 = true:=by kernel_rfl
set_option maxHeartbeats 8000000 in
set_option maxRecDepth 100000 in
theorem laws_eqByS.calls (k : Nat) (A0 : Option Addr) (c0 : Nat) (l0 : List (S85)) (A1 : Option Addr) (c1 : Nat) (l1 : List (S85)) (r : Bool) (w : World) (hr0 : Kd.C k85 w A0 l0.length l0) (hc0 : l0.length ≤ c0) (hr1 : Kd.C k85 w A1 l1.length l1) (hc1 : l1.length ≤ c1) (h : laws_eqByS.f k l0 l1 = some r) :
  Calls Tryd.prog 77 #[.slice A0 l0.length c0,.slice A1 l1.length c1] w fun e w'=>e = .returned (.bool r) ∧ Below w.heap.size w w':=by
 have hu85:=Tryd.underlying85
 have HR0:=aM_ hr0
 have HC0:=aM_ hc0
 clear hr0 hc0
 have HR1:=aM_ hr1
 have HC1:=aM_ hc1
 clear hr1 hc1
 have HB:=aM_ (Below.refl w.heap.size w)
 have H : (if (l0.length : Int) = (l1.length : Int) then (laws_eqByS.l0 k l0 l1 0) else (some false)) = some r:=h
 clear h
 by_cases c3 : (l0.length : Int) = (l1.length : Int)
 ·rw [if_pos c3] at H
  have c3b0 : ((l0.length : Int) == (l1.length : Int)) = true:=beq_iff_eq.mpr c3
  have c3b1 : ((l0.length : Int) != (l1.length : Int)) = false:=bne_eq_false_iff_eq.mpr c3
  have c3b2 : (l0.length == l1.length) = true:=by first | simpa using c3 | (simp at c3 ⊢;omega)
  clear c3
  have H':=aM_ H
  clear H
  go_enter Tryd.func77,Tryd.ntmps77
  go_wp2
  (try simp only [Act.put,sI_,sS_,sZ_])
  go_loopg [5] k (fun kq v5 w'=>∃ (x5_1 : Int),v5 = .int .i64 x5_1 ∧ Aside0 (laws_eqByS.l0 kq l0 l1 x5_1 = some r) ∧ Aside0 (kq ≤ k) ∧ Aside0 (Below w.heap.size w w'))
  case atStart=>exact ⟨(0),(by first | rfl | (simp;done) | (simp [*];done)),H', ⟨Nat.le_refl _⟩,⟨by exact bZ_ HB⟩⟩
  case round =>
   clear H'
   clear c3b0 c3b1 c3b2
   obtain ⟨x5_1,rfl,HA,HK1,HB⟩:=hrel
   cases gk with
   | zero=>exact absurd HA.out (by simp [laws_eqByS.l0])
   | succ k1 =>
    have H:=HA.out
    clear HA
    simp only [laws_eqByS.l0] at H
    by_cases c4 : x5_1 < (l0.length : Int)
    ·rw [if_pos c4] at H
     have c4b0 : decide (x5_1 < (l0.length : Int)) = true:=decide_eq_true c4
     clear c4
     by_cases c5 : 0 ≤ x5_1
     ·rw [if_pos c5] at H
      have c5b0 : decide (0 ≤ x5_1) = true:=decide_eq_true c5
      clear c5
      by_cases c6 : x5_1 < (l1.length : Int)
      ·rw [if_pos c6] at H
       have c6b0 : decide (x5_1 < (l1.length : Int)) = true:=decide_eq_true c6
       clear c6
       replace H:=oB_ H
       obtain ⟨t187,A70,H⟩:=H
       replace H : (if t187 = true then (laws_eqByS.l0 k1 l0 l1 (wrap64 (x5_1 + 1))) else (some false)) = some r:=H
       have A7:=aM_ A70
       clear A70
       by_cases c8 : t187 = true
       ·subst c8
        have H1 : (laws_eqByS.l0 k1 l0 l1 (wrap64 (x5_1 + 1))) = some r:=by rw [if_pos rfl] at H;exact H
        clear H
        have H:=H1
        clear H1
        have H':=aM_ H
        clear H
        try go_wp2
        have n0_:=aM_ (bD_ HB.out)
        clear HB
        have HB:=n0_
        clear n0_
        have p185 : 0 ≤ (x5_1 : Int):=oT_ (by first | (with_reducible assumption) | assumption)
        have q185 : x5_1 < (l0.length : Int):=oT_ (by first | (with_reducible assumption) | assumption)
        obtain ⟨ad185,e185,hx185_0,hx185_1⟩:=at_T85 HR0.out x5_1 p185 q185
        have hw185_1:=hx185_1
        have hw185_0:=hx185_0
        cases e185
        replace hx185_0:=(HB.out.cell (wL_ w _ hx185_0)).trans hx185_0
        replace hx185_1:=(HB.out.cell (wL_ w _ hx185_1)).trans hx185_1
        replace p185:=eq_true p185
        replace q185:=eq_true q185
        have p186 : 0 ≤ (x5_1 : Int):=oT_ (by first | (with_reducible assumption) | assumption)
        have q186 : x5_1 < (l1.length : Int):=oT_ (by first | (with_reducible assumption) | assumption)
        obtain ⟨ad186,e186,hx186_0,hx186_1⟩:=at_T85 HR1.out x5_1 p186 q186
        have hw186_1:=hx186_1
        have hw186_0:=hx186_0
        cases e186
        replace hx186_0:=(HB.out.cell (wL_ w _ hx186_0)).trans hx186_0
        replace hx186_1:=(HB.out.cell (wL_ w _ hx186_1)).trans hx186_1
        replace p186:=eq_true p186
        replace q186:=eq_true q186
        refine start_ (n:=10) (S:=fun w'=>w'.cell? (ad185.add ((x5_1).toNat * 2)) = some (.int .i64 ((rd_T85 l0 x5_1).f0)) ∧ w'.cell? ⟨(ad185.add ((x5_1).toNat * 2)).block,(ad185.add ((x5_1).toNat * 2)).off + 1,none⟩ = some (.bool ((rd_T85 l0 x5_1).f1)) ∧ w'.cell? (ad186.add ((x5_1).toNat * 2)) = some (.int .i64 ((rd_T85 l1 x5_1).f0)) ∧ w'.cell? ⟨(ad186.add ((x5_1).toNat * 2)).block,(ad186.add ((x5_1).toNat * 2)).off + 1,none⟩ = some (.bool ((rd_T85 l1 x5_1).f1))) (ds:=[]) (tb_ 0 10) (by kernel_rfl) rfl rfl ⟨((HB.out.cell (wL_ w _ hw185_0)).trans hw185_0),((HB.out.cell (wL_ w _ hw185_1)).trans hw185_1),((HB.out.cell (wL_ w _ hw186_0)).trans hw186_0),((HB.out.cell (wL_ w _ hw186_1)).trans hw186_1)⟩ (fun hHeld=>?_);refine with_tabW laws_eqByS.tab6 laws_eqByS.bits6 (fun HT_ HW_=>?_)
        generalize wr.drew = w9 at HB hx185_0 hx185_1 hx186_0 hx186_1 hHeld ⊢
        refine pure_ (i:=0) (N:=some 17) (v:=?_) (a':=?_) (tb_ 1 9) rfl rfl (any_of HT_.out (by kernel_rfl)) (fun _ _ _ h=>h) (Or.inl ⟨by rfl,?_⟩) ?_ ?_
        rotate_left
        ·intro w'
         go_simp
         with_reducible rfl
        rotate_left
        ·simp only [Act.put,sI_,sZ_,sS_,i64_w,i32_w]
         rfl
        refine pure_ (i:=1) (N:=some 18) (v:=?_) (a':=?_) (tb_ 2 8) rfl rfl (any_of HT_.out (by kernel_rfl)) (fun _ _ _ h=>h) (Or.inl ⟨by rfl,?_⟩) ?_ ?_
        rotate_left
        ·intro w'
         go_simp
         with_reducible rfl
        rotate_left
        ·simp only [Act.put,sI_,sZ_,sS_,i64_w,i32_w]
         rfl
        refine pure_ (i:=2) (N:=some 19) (v:=?_) (a':=?_) (tb_ 3 7) rfl rfl (any_of HT_.out (by kernel_rfl)) (fun _ _ _ h=>h) (Or.inl ⟨by rfl,?_⟩) ?_ ?_
        rotate_left
        ·intro w'
         go_simp
         with_reducible rfl
        rotate_left
        ·simp only [Act.put,sI_,sZ_,sS_,i64_w,i32_w]
         rfl
        refine pure_ (i:=4) (N:=some 21) (v:=?_) (a':=?_) #[true,true,true,false,true,false,false,false,false,false] rfl rfl (any_of HT_.out (by kernel_rfl)) (fun _ _ _ h=>h) (Or.inl ⟨by rfl,?_⟩) ?_ ?_
        rotate_left
        ·intro w'
         go_simp
         with_reducible rfl
        rotate_left
        ·simp only [Act.put,sI_,sZ_,sS_,i64_w,i32_w]
         rfl
        refine pure_ (i:=5) (N:=some 22) (v:=?_) (a':=?_) #[true,true,true,false,true,true,false,false,false,false] rfl rfl (any_of HT_.out (by kernel_rfl)) (fun _ _ _ h=>h) (Or.inl ⟨by rfl,?_⟩) ?_ ?_
        rotate_left
        ·intro w'
         go_simp
         with_reducible rfl
        rotate_left
        ·simp only [Act.put,sI_,sZ_,sS_,i64_w,i32_w]
         rfl
        refine pure_ (i:=6) (N:=some 23) (v:=?_) (a':=?_) #[true,true,true,false,true,true,true,false,false,false] rfl rfl (any_of HT_.out (by kernel_rfl)) (fun _ _ _ h=>h) (Or.inl ⟨by rfl,?_⟩) ?_ ?_
        rotate_left
        ·intro w'
         go_simp
         with_reducible rfl
        rotate_left
        ·simp only [Act.put,sI_,sZ_,sS_,i64_w,i32_w]
         rfl
        refine take_ (i:=3) (N:=some 20) (v:=?_) (a':=?_) (tb_ 7 3) rfl rfl (take_ofW HT_.out HW_.out (by kernel_rfl)) (fun _ _ _ h=>h) (Or.inl ⟨by rfl,?_⟩) hHeld ?_ ?_
        rotate_left
        ·rintro w' ⟨s0,s1,s2,s3⟩
         go_simp
         with_reducible rfl
        rotate_left
        ·simp only [Act.put,sI_,sZ_,sS_,i64_w,i32_w]
         rfl
        refine take_ (i:=7) (N:=some 24) (v:=?_) (a':=?_) (tb_ 8 2) rfl rfl (take_ofW HT_.out HW_.out (by kernel_rfl)) (fun _ _ _ h=>h) (Or.inl ⟨by rfl,?_⟩) hHeld ?_ ?_
        rotate_left
        ·rintro w' ⟨s0,s1,s2,s3⟩
         go_simp
         with_reducible rfl
        rotate_left
        ·simp only [Act.put,sI_,sZ_,sS_,i64_w,i32_w]
         rfl
        refine one_ (i:=8) (N:=some 25) (tb_ 9 1) rfl rfl (one_of HT_.out (by kernel_rfl)) (by decide) (fun K hK=>?_)
        refine goes_ Tryd.func118 (by kernel_rfl) rfl #[.agg #[.int .i64 ((rd_T85 l0 x5_1).f0),.bool ((rd_T85 l0 x5_1).f1)],.agg #[.int .i64 ((rd_T85 l1 x5_1).f0),.bool ((rd_T85 l1 x5_1).f1)]] (by rfl) rfl rfl (by (try simp only [mA_,mC_,mN_]);first | done | rfl | (simp only [lD_,lT_];rfl)) ?_
        with_reducible refine (laws_eqBy.calls ((rd_T85 l0 x5_1).f0) ((rd_T85 l0 x5_1).f1) ((rd_T85 l1 x5_1).f0) ((rd_T85 l1 x5_1).f1) true _ A7.out).mono ?_
        rintro e w10 ⟨rfl,hb⟩
        refine ⟨_,rfl,?_⟩
        have n0_:=aM_ (bT_ (by exact bZ_ HB) hb)
        clear HB
        have HB:=n0_
        clear n0_ hb
        skip
        skip
        skip
        refine hK.out _ _ ⟨((HB.out.cell (wL_ w _ hw185_0)).trans hw185_0),((HB.out.cell (wL_ w _ hw185_1)).trans hw185_1),((HB.out.cell (wL_ w _ hw186_0)).trans hw186_0),((HB.out.cell (wL_ w _ hw186_1)).trans hw186_1)⟩ (fun hHeld=>?_)
        clear hK K
        refine norm_ (a':=?_) ?_ ?_
        rotate_left
        ·show Act.put _ (some 25) _ = _
         simp only [Act.put,sI_,sZ_,sS_,i64_w,i32_w]
         rfl
        refine pure_ (i:=9) (N:=some 26) (v:=?_) (a':=?_) (tb_ 10 0) rfl rfl (any_of HT_.out (by kernel_rfl)) (fun _ _ _ h=>h) (Or.inl ⟨by rfl,?_⟩) ?_ ?_
        rotate_left
        ·intro w'
         go_simp
         with_reducible rfl
        rotate_left
        ·simp only [Act.put,sI_,sZ_,sS_,i64_w,i32_w]
         rfl
        refine done_ (done_of HT_.out (by kernel_rfl)) ?_
        try go_wp2
        go_roundg k1
        case measure=>have:=HK1.out;omega
        case rel=>exact ⟨(wrap64 (x5_1 + 1)),(by first | rfl | (simp;done) | (simp [*];done)),H', ⟨by have:=HK1.out;omega⟩,⟨by exact bZ_ HB⟩⟩
       ·replace c8:=Bool.eq_false_iff.mpr c8
        subst c8
        have H1 : (some false) = some r:=by rw [if_neg (show ¬ (false = true) by decide)] at H;exact H
        clear H
        have H:=H1
        clear H1
        obtain rfl:=Option.some.inj H
        try go_wp2
        have n0_:=aM_ (bD_ HB.out)
        clear HB
        have HB:=n0_
        clear n0_
        have p185 : 0 ≤ (x5_1 : Int):=oT_ (by first | (with_reducible assumption) | assumption)
        have q185 : x5_1 < (l0.length : Int):=oT_ (by first | (with_reducible assumption) | assumption)
        obtain ⟨ad185,e185,hx185_0,hx185_1⟩:=at_T85 HR0.out x5_1 p185 q185
        have hw185_1:=hx185_1
        have hw185_0:=hx185_0
        cases e185
        replace hx185_0:=(HB.out.cell (wL_ w _ hx185_0)).trans hx185_0
        replace hx185_1:=(HB.out.cell (wL_ w _ hx185_1)).trans hx185_1
        replace p185:=eq_true p185
        replace q185:=eq_true q185
        have p186 : 0 ≤ (x5_1 : Int):=oT_ (by first | (with_reducible assumption) | assumption)
        have q186 : x5_1 < (l1.length : Int):=oT_ (by first | (with_reducible assumption) | assumption)
        obtain ⟨ad186,e186,hx186_0,hx186_1⟩:=at_T85 HR1.out x5_1 p186 q186
        have hw186_1:=hx186_1
        have hw186_0:=hx186_0
        cases e186
        replace hx186_0:=(HB.out.cell (wL_ w _ hx186_0)).trans hx186_0
        replace hx186_1:=(HB.out.cell (wL_ w _ hx186_1)).trans hx186_1
        replace p186:=eq_true p186
        replace q186:=eq_true q186
        refine start_ (n:=10) (S:=fun w'=>w'.cell? (ad185.add ((x5_1).toNat * 2)) = some (.int .i64 ((rd_T85 l0 x5_1).f0)) ∧ w'.cell? ⟨(ad185.add ((x5_1).toNat * 2)).block,(ad185.add ((x5_1).toNat * 2)).off + 1,none⟩ = some (.bool ((rd_T85 l0 x5_1).f1)) ∧ w'.cell? (ad186.add ((x5_1).toNat * 2)) = some (.int .i64 ((rd_T85 l1 x5_1).f0)) ∧ w'.cell? ⟨(ad186.add ((x5_1).toNat * 2)).block,(ad186.add ((x5_1).toNat * 2)).off + 1,none⟩ = some (.bool ((rd_T85 l1 x5_1).f1))) (ds:=[]) (tb_ 0 10) (by kernel_rfl) rfl rfl ⟨((HB.out.cell (wL_ w _ hw185_0)).trans hw185_0),((HB.out.cell (wL_ w _ hw185_1)).trans hw185_1),((HB.out.cell (wL_ w _ hw186_0)).trans hw186_0),((HB.out.cell (wL_ w _ hw186_1)).trans hw186_1)⟩ (fun hHeld=>?_);refine with_tabW laws_eqByS.tab6 laws_eqByS.bits6 (fun HT_ HW_=>?_)
        generalize wr.drew = w11 at HB hx185_0 hx185_1 hx186_0 hx186_1 hHeld ⊢
        refine pure_ (i:=0) (N:=some 17) (v:=?_) (a':=?_) (tb_ 1 9) rfl rfl (any_of HT_.out (by kernel_rfl)) (fun _ _ _ h=>h) (Or.inl ⟨by rfl,?_⟩) ?_ ?_
        rotate_left
        ·intro w'
         go_simp
         with_reducible rfl
        rotate_left
        ·simp only [Act.put,sI_,sZ_,sS_,i64_w,i32_w]
         rfl
        refine pure_ (i:=1) (N:=some 18) (v:=?_) (a':=?_) (tb_ 2 8) rfl rfl (any_of HT_.out (by kernel_rfl)) (fun _ _ _ h=>h) (Or.inl ⟨by rfl,?_⟩) ?_ ?_
        rotate_left
        ·intro w'
         go_simp
         with_reducible rfl
        rotate_left
        ·simp only [Act.put,sI_,sZ_,sS_,i64_w,i32_w]
         rfl
        refine pure_ (i:=2) (N:=some 19) (v:=?_) (a':=?_) (tb_ 3 7) rfl rfl (any_of HT_.out (by kernel_rfl)) (fun _ _ _ h=>h) (Or.inl ⟨by rfl,?_⟩) ?_ ?_
        rotate_left
        ·intro w'
         go_simp
         with_reducible rfl
        rotate_left
        ·simp only [Act.put,sI_,sZ_,sS_,i64_w,i32_w]
         rfl
        refine pure_ (i:=4) (N:=some 21) (v:=?_) (a':=?_) #[true,true,true,false,true,false,false,false,false,false] rfl rfl (any_of HT_.out (by kernel_rfl)) (fun _ _ _ h=>h) (Or.inl ⟨by rfl,?_⟩) ?_ ?_
        rotate_left
        ·intro w'
         go_simp
         with_reducible rfl
        rotate_left
        ·simp only [Act.put,sI_,sZ_,sS_,i64_w,i32_w]
         rfl
        refine pure_ (i:=5) (N:=some 22) (v:=?_) (a':=?_) #[true,true,true,false,true,true,false,false,false,false] rfl rfl (any_of HT_.out (by kernel_rfl)) (fun _ _ _ h=>h) (Or.inl ⟨by rfl,?_⟩) ?_ ?_
        rotate_left
        ·intro w'
         go_simp
         with_reducible rfl
        rotate_left
        ·simp only [Act.put,sI_,sZ_,sS_,i64_w,i32_w]
         rfl
        refine pure_ (i:=6) (N:=some 23) (v:=?_) (a':=?_) #[true,true,true,false,true,true,true,false,false,false] rfl rfl (any_of HT_.out (by kernel_rfl)) (fun _ _ _ h=>h) (Or.inl ⟨by rfl,?_⟩) ?_ ?_
        rotate_left
        ·intro w'
         go_simp
         with_reducible rfl
        rotate_left
        ·simp only [Act.put,sI_,sZ_,sS_,i64_w,i32_w]
         rfl
        refine take_ (i:=3) (N:=some 20) (v:=?_) (a':=?_) (tb_ 7 3) rfl rfl (take_ofW HT_.out HW_.out (by kernel_rfl)) (fun _ _ _ h=>h) (Or.inl ⟨by rfl,?_⟩) hHeld ?_ ?_
        rotate_left
        ·rintro w' ⟨s0,s1,s2,s3⟩
         go_simp
         with_reducible rfl
        rotate_left
        ·simp only [Act.put,sI_,sZ_,sS_,i64_w,i32_w]
         rfl
        refine take_ (i:=7) (N:=some 24) (v:=?_) (a':=?_) (tb_ 8 2) rfl rfl (take_ofW HT_.out HW_.out (by kernel_rfl)) (fun _ _ _ h=>h) (Or.inl ⟨by rfl,?_⟩) hHeld ?_ ?_
        rotate_left
        ·rintro w' ⟨s0,s1,s2,s3⟩
         go_simp
         with_reducible rfl
        rotate_left
        ·simp only [Act.put,sI_,sZ_,sS_,i64_w,i32_w]
         rfl
        refine one_ (i:=8) (N:=some 25) (tb_ 9 1) rfl rfl (one_of HT_.out (by kernel_rfl)) (by decide) (fun K hK=>?_)
        refine goes_ Tryd.func118 (by kernel_rfl) rfl #[.agg #[.int .i64 ((rd_T85 l0 x5_1).f0),.bool ((rd_T85 l0 x5_1).f1)],.agg #[.int .i64 ((rd_T85 l1 x5_1).f0),.bool ((rd_T85 l1 x5_1).f1)]] (by rfl) rfl rfl (by (try simp only [mA_,mC_,mN_]);first | done | rfl | (simp only [lD_,lT_];rfl)) ?_
        with_reducible refine (laws_eqBy.calls ((rd_T85 l0 x5_1).f0) ((rd_T85 l0 x5_1).f1) ((rd_T85 l1 x5_1).f0) ((rd_T85 l1 x5_1).f1) false _ A7.out).mono ?_
        rintro e w12 ⟨rfl,hb⟩
        refine ⟨_,rfl,?_⟩
        have n0_:=aM_ (bT_ (by exact bZ_ HB) hb)
        clear HB
        have HB:=n0_
        clear n0_ hb
        skip
        skip
        skip
        refine hK.out _ _ ⟨((HB.out.cell (wL_ w _ hw185_0)).trans hw185_0),((HB.out.cell (wL_ w _ hw185_1)).trans hw185_1),((HB.out.cell (wL_ w _ hw186_0)).trans hw186_0),((HB.out.cell (wL_ w _ hw186_1)).trans hw186_1)⟩ (fun hHeld=>?_)
        clear hK K
        refine norm_ (a':=?_) ?_ ?_
        rotate_left
        ·show Act.put _ (some 25) _ = _
         simp only [Act.put,sI_,sZ_,sS_,i64_w,i32_w]
         rfl
        refine pure_ (i:=9) (N:=some 26) (v:=?_) (a':=?_) (tb_ 10 0) rfl rfl (any_of HT_.out (by kernel_rfl)) (fun _ _ _ h=>h) (Or.inl ⟨by rfl,?_⟩) ?_ ?_
        rotate_left
        ·intro w'
         go_simp
         with_reducible rfl
        rotate_left
        ·simp only [Act.put,sI_,sZ_,sS_,i64_w,i32_w]
         rfl
        refine done_ (done_of HT_.out (by kernel_rfl)) ?_
        try go_wp2
        go_ret
        exact ⟨by first | rfl | (simp [errW_none,errW_some] <;> rfl) | (simp [*, errW_none,errW_some] <;> rfl),by exact bZ_ HB⟩
      ·rw [if_neg c6] at H
       exact absurd H (by simp)
     ·rw [if_neg c5] at H
      exact absurd H (by simp)
    ·rw [if_neg c4] at H
     have c4b0 : decide (x5_1 < (l0.length : Int)) = false:=decide_eq_false c4
     clear c4
     obtain rfl:=Option.some.inj H
     go_wp2
     go_ret
     exact ⟨by first | rfl | (simp [errW_none,errW_some] <;> rfl) | (simp [*, errW_none,errW_some] <;> rfl),by exact bZ_ HB⟩
 ·rw [if_neg c3] at H
  have c3b0 : ((l0.length : Int) == (l1.length : Int)) = false:=beq_eq_false_iff_ne.mpr c3
  have c3b1 : ((l0.length : Int) != (l1.length : Int)) = true:=bne_iff_ne.mpr c3
  have c3b2 : (l0.length == l1.length) = false:=by first | simpa using c3 | (simp at c3 ⊢;omega)
  obtain rfl:=Option.some.inj H
  go_enter Tryd.func77,Tryd.ntmps77
  go_wp2
  go_ret
  exact ⟨by first | rfl | (simp [errW_none,errW_some] <;> rfl) | (simp [*, errW_none,errW_some] <;> rfl),by exact bZ_ HB⟩
def laws_eqIndex.f (k : Nat) (a0_0 : ByteArray) (a0_1 : Bool) (l0_2 : List (S85)) (a1_0 : ByteArray) (a1_1 : Bool) (l1_2 : List (S85)) : Option (Bool):=if a0_0.toList = a1_0.toList then (if (a0_1 != a1_1) = true then (some false) else ((laws_eqByS.f k l0_2 l1_2).bind fun t190=>(if t190 = true then (some true) else (some false)))) else (some false)
theorem laws_eqIndex.mono : ∀ a0 a1 a2 a3 a4 a5 k,LeO (laws_eqIndex.f k a0 a1 a2 a3 a4 a5) (laws_eqIndex.f (k + 1) a0 a1 a2 a3 a4 a5):=by
 intro a0 a1 a2 a3 a4 a5 k
 unfold laws_eqIndex.f
 repeat' first
   | (with_reducible exact laws_eqByS.mono _ _ _)
   | (with_reducible exact LeO.refl _)
   | (with_reducible exact LeO.none _)
   | (with_reducible refine LeO.ite ?_ ?_)
   | (with_reducible refine LeO.bind ?_ (fun _=>?_))
   | exact laws_eqByS.mono _ _ _
   | exact LeO.none _
   | refine LeO.ite ?_ ?_
   | refine LeO.bind ?_ (fun _=>?_)
set_option maxHeartbeats 8000000 in
set_option maxRecDepth 100000 in
theorem laws_eqIndex.calls (k : Nat) (a0_0 : ByteArray) (a0_1 : Bool) (A0_2 : Option Addr) (c0_2 : Nat) (l0_2 : List (S85)) (a1_0 : ByteArray) (a1_1 : Bool) (A1_2 : Option Addr) (c1_2 : Nat) (l1_2 : List (S85)) (r : Bool) (w : World) (hr0_2 : Kd.C k85 w A0_2 l0_2.length l0_2) (hc0_2 : l0_2.length ≤ c0_2) (hr1_2 : Kd.C k85 w A1_2 l1_2.length l1_2) (hc1_2 : l1_2.length ≤ c1_2) (h : laws_eqIndex.f k a0_0 a0_1 l0_2 a1_0 a1_1 l1_2 = some r) :
  Calls Tryd.prog 119 #[.agg #[.string a0_0,.bool a0_1,.slice A0_2 l0_2.length c0_2],.agg #[.string a1_0,.bool a1_1,.slice A1_2 l1_2.length c1_2]] w fun e w'=>e = .returned (.bool r) ∧ Below w.heap.size w w':=by
 have hu69:=Tryd.underlying69
 have HR0_2:=aM_ hr0_2
 have HC0_2:=aM_ hc0_2
 clear hr0_2 hc0_2
 have HR1_2:=aM_ hr1_2
 have HC1_2:=aM_ hc1_2
 clear hr1_2 hc1_2
 have HB:=aM_ (Below.refl w.heap.size w)
 have H : (if a0_0.toList = a1_0.toList then (if (a0_1 != a1_1) = true then (some false) else ((laws_eqByS.f k l0_2 l1_2).bind fun t190=>(if t190 = true then (some true) else (some false)))) else (some false)) = some r:=h
 clear h
 by_cases c3 : a0_0.toList = a1_0.toList
 ·rw [if_pos c3] at H
  have c3b0 : (a0_0.toList == a1_0.toList) = true:=beq_iff_eq.mpr c3
  have c3b1 : (a0_0.toList != a1_0.toList) = false:=bne_eq_false_iff_eq.mpr c3
  clear c3
  by_cases c4 : (a0_1 != a1_1) = true
  ·rw [if_pos c4] at H
   have c4b0 : (a0_1 != a1_1) = true:=c4
   (try (have c4b1 : decide (a0_1 = a1_1) = false:=by simpa using c4))
   (try (have c4b2 : (a0_1 == a1_1) = false:=by simpa using c4))
   (try (have c4b3 : ¬ (a0_1 = a1_1):=by simpa using c4))
   clear c4
   obtain rfl:=Option.some.inj H
   go_enter Tryd.func119,Tryd.ntmps119
   go_wp2_with (first | ((with_reducible refine gate_dst (N:=2) rfl ?_);refine box_event ?hg (N:=2) ?hd (cs:=#[.string a0_0,.bool a0_1,.slice A0_2 l0_2.length c0_2]) (t:=69) ?hr ?_;(case hd=>rfl);(case hg=>rfl);(case hr=>first | (go_simp;done) | (go_simp;rfl));intro gb188 hg w5 hbox hb;have n0_:=aM_ (bT_ (by exact bZ_ HB) hb);have n1_:=aM_ (hbox);have n2_:=aM_ ((by rw [hg];exact (bS_ (by exact bZ_ HB)) : w.heap.size ≤ gb188));have n3_:=aM_ ((by rw [hg];exact (bS_ (by exact bZ_ HB)) : w.heap.size ≤ gb188));clear HB;have HB:=n0_;have BK188:=n1_;have GW188:=n2_;have GE188:=n3_;clear n0_ n1_ n2_ n3_ hb hbox hg) | ((with_reducible refine gate_dst (N:=3) rfl ?_);refine box_event ?hg (N:=3) ?hd (cs:=#[.string a1_0,.bool a1_1,.slice A1_2 l1_2.length c1_2]) (t:=69) ?hr ?_;(case hd=>rfl);(case hg=>rfl);(case hr=>first | (go_simp;done) | (go_simp;rfl));intro gb189 hg w6 hbox hb;have n0_:=aM_ (blk_below (g:=gb188) (o:=.cells #[.string a0_0,.bool a0_1,.slice A0_2 l0_2.length c0_2] 69 (0,0)) (by exact kZ_ BK188) hb);have n1_:=aM_ (bT_ (by exact bZ_ HB) hb);have n2_:=aM_ (hbox);have n3_:=aM_ ((by rw [hg];exact (bS_ (by exact bZ_ HB)) : w.heap.size ≤ gb189));have n4_:=aM_ ((by rw [hg];exact (bS_ (by exact bZ_ HB)) : w.heap.size ≤ gb189));have n5_:=aM_ ((by rw [hg];exact nN_ (blk_lt (g:=gb188) (o:=.cells #[.string a0_0,.bool a0_1,.slice A0_2 l0_2.length c0_2] 69 (0,0)) (by exact kZ_ BK188)) : gb188 ≠ gb189));have n6_:=aM_ ((by rw [hg];exact Nat.ne_of_gt (blk_lt (g:=gb188) (o:=.cells #[.string a0_0,.bool a0_1,.slice A0_2 l0_2.length c0_2] 69 (0,0)) (by exact kZ_ BK188)) : gb189 ≠ gb188));clear BK188 HB;have BK188:=n0_;have HB:=n1_;have BK189:=n2_;have GW189:=n3_;have GE189:=n4_;have NB188_189:=n5_;have NB189_188:=n6_;clear n0_ n1_ n2_ n3_ n4_ n5_ n6_ hb hbox hg;have hnb7:=NB188_189.out;have hnc7:=NB189_188.out;have hcz8_0 : w6.cell? ⟨gb188,0,none⟩ = some (.string a0_0):=(kC_ BK188.out 0).trans rfl;have hcz8_1 : w6.cell? ⟨gb188,1,none⟩ = some (.bool a0_1):=(kC_ BK188.out 1).trans rfl;have hcz8_2 : w6.cell? ⟨gb188,2,none⟩ = some (.slice A0_2 l0_2.length c0_2):=(kC_ BK188.out 2).trans rfl;have hfz8_0:=kF_ BK188.out 0;have hfz8_1:=kF_ BK188.out 1;have hfz8_2:=kF_ BK188.out 2;have hcz9_0 : w6.cell? ⟨gb189,0,none⟩ = some (.string a1_0):=(kC_ BK189.out 0).trans rfl;have hcz9_1 : w6.cell? ⟨gb189,1,none⟩ = some (.bool a1_1):=(kC_ BK189.out 1).trans rfl;have hcz9_2 : w6.cell? ⟨gb189,2,none⟩ = some (.slice A1_2 l1_2.length c1_2):=(kC_ BK189.out 2).trans rfl;have hfz9_0:=kF_ BK189.out 0;have hfz9_1:=kF_ BK189.out 1;have hfz9_2:=kF_ BK189.out 2))
   go_ret
   exact ⟨by first | rfl | (simp [errW_none,errW_some] <;> rfl) | (simp [*, errW_none,errW_some] <;> rfl),by exact bZ_ HB⟩
  ·rw [if_neg c4] at H
   have c4b0 : (a0_1 != a1_1) = false:=by simpa using c4
   (try (have c4b1 : decide (a0_1 = a1_1) = true:=by simpa using c4))
   (try (have c4b2 : (a0_1 == a1_1) = true:=by simpa using c4))
   clear c4
   replace H:=oB_ H
   obtain ⟨t190,A100,H⟩:=H
   replace H : (if t190 = true then (some true) else (some false)) = some r:=H
   have A10:=aM_ A100
   clear A100
   by_cases c11 : t190 = true
   ·subst c11
    have H1 : (some true) = some r:=by rw [if_pos rfl] at H;exact H
    clear H
    have H:=H1
    clear H1
    obtain rfl:=Option.some.inj H
    go_enter Tryd.func119,Tryd.ntmps119
    go_wp2_with (first | ((with_reducible refine gate_dst (N:=2) rfl ?_);refine box_event ?hg (N:=2) ?hd (cs:=#[.string a0_0,.bool a0_1,.slice A0_2 l0_2.length c0_2]) (t:=69) ?hr ?_;(case hd=>rfl);(case hg=>rfl);(case hr=>first | (go_simp;done) | (go_simp;rfl));intro gb188 hg w12 hbox hb;have n0_:=aM_ (bT_ (by exact bZ_ HB) hb);have n1_:=aM_ (hbox);have n2_:=aM_ ((by rw [hg];exact (bS_ (by exact bZ_ HB)) : w.heap.size ≤ gb188));have n3_:=aM_ ((by rw [hg];exact (bS_ (by exact bZ_ HB)) : w.heap.size ≤ gb188));clear HB;have HB:=n0_;have BK188:=n1_;have GW188:=n2_;have GE188:=n3_;clear n0_ n1_ n2_ n3_ hb hbox hg) | ((with_reducible refine gate_dst (N:=3) rfl ?_);refine box_event ?hg (N:=3) ?hd (cs:=#[.string a1_0,.bool a1_1,.slice A1_2 l1_2.length c1_2]) (t:=69) ?hr ?_;(case hd=>rfl);(case hg=>rfl);(case hr=>first | (go_simp;done) | (go_simp;rfl));intro gb189 hg w13 hbox hb;have n0_:=aM_ (blk_below (g:=gb188) (o:=.cells #[.string a0_0,.bool a0_1,.slice A0_2 l0_2.length c0_2] 69 (0,0)) (by exact kZ_ BK188) hb);have n1_:=aM_ (bT_ (by exact bZ_ HB) hb);have n2_:=aM_ (hbox);have n3_:=aM_ ((by rw [hg];exact (bS_ (by exact bZ_ HB)) : w.heap.size ≤ gb189));have n4_:=aM_ ((by rw [hg];exact (bS_ (by exact bZ_ HB)) : w.heap.size ≤ gb189));have n5_:=aM_ ((by rw [hg];exact nN_ (blk_lt (g:=gb188) (o:=.cells #[.string a0_0,.bool a0_1,.slice A0_2 l0_2.length c0_2] 69 (0,0)) (by exact kZ_ BK188)) : gb188 ≠ gb189));have n6_:=aM_ ((by rw [hg];exact Nat.ne_of_gt (blk_lt (g:=gb188) (o:=.cells #[.string a0_0,.bool a0_1,.slice A0_2 l0_2.length c0_2] 69 (0,0)) (by exact kZ_ BK188)) : gb189 ≠ gb188));clear BK188 HB;have BK188:=n0_;have HB:=n1_;have BK189:=n2_;have GW189:=n3_;have GE189:=n4_;have NB188_189:=n5_;have NB189_188:=n6_;clear n0_ n1_ n2_ n3_ n4_ n5_ n6_ hb hbox hg;have hnb14:=NB188_189.out;have hnc14:=NB189_188.out;have hcz15_0 : w13.cell? ⟨gb188,0,none⟩ = some (.string a0_0):=(kC_ BK188.out 0).trans rfl;have hcz15_1 : w13.cell? ⟨gb188,1,none⟩ = some (.bool a0_1):=(kC_ BK188.out 1).trans rfl;have hcz15_2 : w13.cell? ⟨gb188,2,none⟩ = some (.slice A0_2 l0_2.length c0_2):=(kC_ BK188.out 2).trans rfl;have hfz15_0:=kF_ BK188.out 0;have hfz15_1:=kF_ BK188.out 1;have hfz15_2:=kF_ BK188.out 2;have hcz16_0 : w13.cell? ⟨gb189,0,none⟩ = some (.string a1_0):=(kC_ BK189.out 0).trans rfl;have hcz16_1 : w13.cell? ⟨gb189,1,none⟩ = some (.bool a1_1):=(kC_ BK189.out 1).trans rfl;have hcz16_2 : w13.cell? ⟨gb189,2,none⟩ = some (.slice A1_2 l1_2.length c1_2):=(kC_ BK189.out 2).trans rfl;have hfz16_0:=kF_ BK189.out 0;have hfz16_1:=kF_ BK189.out 1;have hfz16_2:=kF_ BK189.out 2) | ((with_reducible refine gate_callee (f:=77) rfl ?_);refine goesL_ (some 19) rfl rfl Tryd.func77 (by kernel_rfl) rfl #[.slice A0_2 l0_2.length c0_2,.slice A1_2 l1_2.length c1_2] rfl (by (try simp only [mA_,mC_,mN_]);first | done | rfl | (simp only [lD_,lT_];rfl)) ?_;(with_reducible refine (laws_eqByS.calls k _ _ l0_2 _ _ l1_2 true _ ?side1 ?side2 ?side3 ?side4 A10.out).mono ?_);(case side1=>exact cZ_ HR0_2 HB);(case side2=>exact HC0_2.out);(case side3=>exact cZ_ HR1_2 HB);(case side4=>exact HC1_2.out);rintro e w17 ⟨rfl,hb⟩;refine ⟨_,rfl,?_⟩;have n0_:=aM_ (blk_below (g:=gb188) (o:=.cells #[.string a0_0,.bool a0_1,.slice A0_2 l0_2.length c0_2] 69 (0,0)) (by exact kZ_ BK188) hb);have n1_:=aM_ (blk_below (g:=gb189) (o:=.cells #[.string a1_0,.bool a1_1,.slice A1_2 l1_2.length c1_2] 69 (0,0)) (by exact kZ_ BK189) hb);have n2_:=aM_ (bT_ (by exact bZ_ HB) hb);clear BK188 BK189 HB;have BK188:=n0_;have BK189:=n1_;have HB:=n2_;clear n0_ n1_ n2_ hb))
    go_ret
    exact ⟨by first | rfl | (simp [errW_none,errW_some] <;> rfl) | (simp [*, errW_none,errW_some] <;> rfl),by exact bZ_ HB⟩
   ·replace c11:=Bool.eq_false_iff.mpr c11
    subst c11
    have H1 : (some false) = some r:=by rw [if_neg (show ¬ (false = true) by decide)] at H;exact H
    clear H
    have H:=H1
    clear H1
    obtain rfl:=Option.some.inj H
    go_enter Tryd.func119,Tryd.ntmps119
    go_wp2_with (first | ((with_reducible refine gate_dst (N:=2) rfl ?_);refine box_event ?hg (N:=2) ?hd (cs:=#[.string a0_0,.bool a0_1,.slice A0_2 l0_2.length c0_2]) (t:=69) ?hr ?_;(case hd=>rfl);(case hg=>rfl);(case hr=>first | (go_simp;done) | (go_simp;rfl));intro gb188 hg w18 hbox hb;have n0_:=aM_ (bT_ (by exact bZ_ HB) hb);have n1_:=aM_ (hbox);have n2_:=aM_ ((by rw [hg];exact (bS_ (by exact bZ_ HB)) : w.heap.size ≤ gb188));have n3_:=aM_ ((by rw [hg];exact (bS_ (by exact bZ_ HB)) : w.heap.size ≤ gb188));clear HB;have HB:=n0_;have BK188:=n1_;have GW188:=n2_;have GE188:=n3_;clear n0_ n1_ n2_ n3_ hb hbox hg) | ((with_reducible refine gate_dst (N:=3) rfl ?_);refine box_event ?hg (N:=3) ?hd (cs:=#[.string a1_0,.bool a1_1,.slice A1_2 l1_2.length c1_2]) (t:=69) ?hr ?_;(case hd=>rfl);(case hg=>rfl);(case hr=>first | (go_simp;done) | (go_simp;rfl));intro gb189 hg w19 hbox hb;have n0_:=aM_ (blk_below (g:=gb188) (o:=.cells #[.string a0_0,.bool a0_1,.slice A0_2 l0_2.length c0_2] 69 (0,0)) (by exact kZ_ BK188) hb);have n1_:=aM_ (bT_ (by exact bZ_ HB) hb);have n2_:=aM_ (hbox);have n3_:=aM_ ((by rw [hg];exact (bS_ (by exact bZ_ HB)) : w.heap.size ≤ gb189));have n4_:=aM_ ((by rw [hg];exact (bS_ (by exact bZ_ HB)) : w.heap.size ≤ gb189));have n5_:=aM_ ((by rw [hg];exact nN_ (blk_lt (g:=gb188) (o:=.cells #[.string a0_0,.bool a0_1,.slice A0_2 l0_2.length c0_2] 69 (0,0)) (by exact kZ_ BK188)) : gb188 ≠ gb189));have n6_:=aM_ ((by rw [hg];exact Nat.ne_of_gt (blk_lt (g:=gb188) (o:=.cells #[.string a0_0,.bool a0_1,.slice A0_2 l0_2.length c0_2] 69 (0,0)) (by exact kZ_ BK188)) : gb189 ≠ gb188));clear BK188 HB;have BK188:=n0_;have HB:=n1_;have BK189:=n2_;have GW189:=n3_;have GE189:=n4_;have NB188_189:=n5_;have NB189_188:=n6_;clear n0_ n1_ n2_ n3_ n4_ n5_ n6_ hb hbox hg;have hnb20:=NB188_189.out;have hnc20:=NB189_188.out;have hcz21_0 : w19.cell? ⟨gb188,0,none⟩ = some (.string a0_0):=(kC_ BK188.out 0).trans rfl;have hcz21_1 : w19.cell? ⟨gb188,1,none⟩ = some (.bool a0_1):=(kC_ BK188.out 1).trans rfl;have hcz21_2 : w19.cell? ⟨gb188,2,none⟩ = some (.slice A0_2 l0_2.length c0_2):=(kC_ BK188.out 2).trans rfl;have hfz21_0:=kF_ BK188.out 0;have hfz21_1:=kF_ BK188.out 1;have hfz21_2:=kF_ BK188.out 2;have hcz22_0 : w19.cell? ⟨gb189,0,none⟩ = some (.string a1_0):=(kC_ BK189.out 0).trans rfl;have hcz22_1 : w19.cell? ⟨gb189,1,none⟩ = some (.bool a1_1):=(kC_ BK189.out 1).trans rfl;have hcz22_2 : w19.cell? ⟨gb189,2,none⟩ = some (.slice A1_2 l1_2.length c1_2):=(kC_ BK189.out 2).trans rfl;have hfz22_0:=kF_ BK189.out 0;have hfz22_1:=kF_ BK189.out 1;have hfz22_2:=kF_ BK189.out 2) | ((with_reducible refine gate_callee (f:=77) rfl ?_);refine goesL_ (some 19) rfl rfl Tryd.func77 (by kernel_rfl) rfl #[.slice A0_2 l0_2.length c0_2,.slice A1_2 l1_2.length c1_2] rfl (by (try simp only [mA_,mC_,mN_]);first | done | rfl | (simp only [lD_,lT_];rfl)) ?_;(with_reducible refine (laws_eqByS.calls k _ _ l0_2 _ _ l1_2 false _ ?side1 ?side2 ?side3 ?side4 A10.out).mono ?_);(case side1=>exact cZ_ HR0_2 HB);(case side2=>exact HC0_2.out);(case side3=>exact cZ_ HR1_2 HB);(case side4=>exact HC1_2.out);rintro e w23 ⟨rfl,hb⟩;refine ⟨_,rfl,?_⟩;have n0_:=aM_ (blk_below (g:=gb188) (o:=.cells #[.string a0_0,.bool a0_1,.slice A0_2 l0_2.length c0_2] 69 (0,0)) (by exact kZ_ BK188) hb);have n1_:=aM_ (blk_below (g:=gb189) (o:=.cells #[.string a1_0,.bool a1_1,.slice A1_2 l1_2.length c1_2] 69 (0,0)) (by exact kZ_ BK189) hb);have n2_:=aM_ (bT_ (by exact bZ_ HB) hb);clear BK188 BK189 HB;have BK188:=n0_;have BK189:=n1_;have HB:=n2_;clear n0_ n1_ n2_ hb))
    go_ret
    exact ⟨by first | rfl | (simp [errW_none,errW_some] <;> rfl) | (simp [*, errW_none,errW_some] <;> rfl),by exact bZ_ HB⟩
 ·rw [if_neg c3] at H
  have c3b0 : (a0_0.toList == a1_0.toList) = false:=beq_eq_false_iff_ne.mpr c3
  have c3b1 : (a0_0.toList != a1_0.toList) = true:=bne_iff_ne.mpr c3
  obtain rfl:=Option.some.inj H
  go_enter Tryd.func119,Tryd.ntmps119
  go_wp2_with (first | ((with_reducible refine gate_dst (N:=2) rfl ?_);refine box_event ?hg (N:=2) ?hd (cs:=#[.string a0_0,.bool a0_1,.slice A0_2 l0_2.length c0_2]) (t:=69) ?hr ?_;(case hd=>rfl);(case hg=>rfl);(case hr=>first | (go_simp;done) | (go_simp;rfl));intro gb188 hg w24 hbox hb;have n0_:=aM_ (bT_ (by exact bZ_ HB) hb);have n1_:=aM_ (hbox);have n2_:=aM_ ((by rw [hg];exact (bS_ (by exact bZ_ HB)) : w.heap.size ≤ gb188));have n3_:=aM_ ((by rw [hg];exact (bS_ (by exact bZ_ HB)) : w.heap.size ≤ gb188));clear HB;have HB:=n0_;have BK188:=n1_;have GW188:=n2_;have GE188:=n3_;clear n0_ n1_ n2_ n3_ hb hbox hg) | ((with_reducible refine gate_dst (N:=3) rfl ?_);refine box_event ?hg (N:=3) ?hd (cs:=#[.string a1_0,.bool a1_1,.slice A1_2 l1_2.length c1_2]) (t:=69) ?hr ?_;(case hd=>rfl);(case hg=>rfl);(case hr=>first | (go_simp;done) | (go_simp;rfl));intro gb189 hg w25 hbox hb;have n0_:=aM_ (blk_below (g:=gb188) (o:=.cells #[.string a0_0,.bool a0_1,.slice A0_2 l0_2.length c0_2] 69 (0,0)) (by exact kZ_ BK188) hb);have n1_:=aM_ (bT_ (by exact bZ_ HB) hb);have n2_:=aM_ (hbox);have n3_:=aM_ ((by rw [hg];exact (bS_ (by exact bZ_ HB)) : w.heap.size ≤ gb189));have n4_:=aM_ ((by rw [hg];exact (bS_ (by exact bZ_ HB)) : w.heap.size ≤ gb189));have n5_:=aM_ ((by rw [hg];exact nN_ (blk_lt (g:=gb188) (o:=.cells #[.string a0_0,.bool a0_1,.slice A0_2 l0_2.length c0_2] 69 (0,0)) (by exact kZ_ BK188)) : gb188 ≠ gb189));have n6_:=aM_ ((by rw [hg];exact Nat.ne_of_gt (blk_lt (g:=gb188) (o:=.cells #[.string a0_0,.bool a0_1,.slice A0_2 l0_2.length c0_2] 69 (0,0)) (by exact kZ_ BK188)) : gb189 ≠ gb188));clear BK188 HB;have BK188:=n0_;have HB:=n1_;have BK189:=n2_;have GW189:=n3_;have GE189:=n4_;have NB188_189:=n5_;have NB189_188:=n6_;clear n0_ n1_ n2_ n3_ n4_ n5_ n6_ hb hbox hg;have hnb26:=NB188_189.out;have hnc26:=NB189_188.out;have hcz27_0 : w25.cell? ⟨gb188,0,none⟩ = some (.string a0_0):=(kC_ BK188.out 0).trans rfl;have hcz27_1 : w25.cell? ⟨gb188,1,none⟩ = some (.bool a0_1):=(kC_ BK188.out 1).trans rfl;have hcz27_2 : w25.cell? ⟨gb188,2,none⟩ = some (.slice A0_2 l0_2.length c0_2):=(kC_ BK188.out 2).trans rfl;have hfz27_0:=kF_ BK188.out 0;have hfz27_1:=kF_ BK188.out 1;have hfz27_2:=kF_ BK188.out 2;have hcz28_0 : w25.cell? ⟨gb189,0,none⟩ = some (.string a1_0):=(kC_ BK189.out 0).trans rfl;have hcz28_1 : w25.cell? ⟨gb189,1,none⟩ = some (.bool a1_1):=(kC_ BK189.out 1).trans rfl;have hcz28_2 : w25.cell? ⟨gb189,2,none⟩ = some (.slice A1_2 l1_2.length c1_2):=(kC_ BK189.out 2).trans rfl;have hfz28_0:=kF_ BK189.out 0;have hfz28_1:=kF_ BK189.out 1;have hfz28_2:=kF_ BK189.out 2))
  go_ret
  exact ⟨by first | rfl | (simp [errW_none,errW_some] <;> rfl) | (simp [*, errW_none,errW_some] <;> rfl),by exact bZ_ HB⟩
end Go.Proofs.YtipehkeabnfngaaDoor.PFnExactDefsText
