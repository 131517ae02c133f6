import Derived.Test.YtllgmgpfdnofmaaZRRPFnRowsReadx0
import Derived.Test.YtllgmgpfdnofmaaZRRPFnRowsReadx6
namespace Go.Proofs.Ytllgmgpfdnofmaa.PFnRowsRead
open Go.RowKit Go.Proofs.YtllgmgpfdnofmaaW.PrintWords Go.Proofs.YtllgmgpfdnofmaaW.PrintLast Go.Proofs.YtllgmgpfdnofmaaW.PrintMore Go.Proofs.Ytllgmgpfdnofmaa.Xtra
attribute [local go_sem] max2_int min2_int max_two min_two max_three min_three max_four min_four str_leq str_gtr str_geq setCell_drewN cell_set2 cell_set3   -- for this text's walks alone
set_option linter.unusedVariables false
set_option linter.unusedSimpArgs false
def spec_FitsAll.l0 : Nat → List (S119) → List (S116) → Int → Option (Bool)
 | 0,_,_,_=>none
 | k + 1,x0,x1,x5=>if x5 < (x1.length : Int) then (if 0 ≤ x5 then (if x5 < (x0.length : Int) then ((spec_Fits.f ((rd_T119 x0 x5).f0) ((rd_T119 x0 x5).f1) ((rd_T119 x0 x5).f2) ((rd_T119 x0 x5).f3) ((rd_T116 x1 x5).f0) ((rd_T116 x1 x5).f1) ((rd_T116 x1 x5).f2)).bind fun t266=>(if t266 = true then (spec_FitsAll.l0 k x0 x1 (wrap64 (x5 + 1))) else (some false))) else (none)) else (none)) else (some true)
def spec_FitsAll.f (k : Nat) (l0 : List (S119)) (l1 : List (S116)) : Option (Bool):=if (l1.length : Int) > (l0.length : Int) then (some false) else (spec_FitsAll.l0 k l0 l1 0)
theorem spec_FitsAll.mono_l : ∀ k,(∀ y0 y1 y2,LeO (spec_FitsAll.l0 k y0 y1 y2) (spec_FitsAll.l0 (k + 1) y0 y1 y2))
 | 0=>fun _ _ _ r h=>by simp [spec_FitsAll.l0] at h
 | k + 1=>by
  have ih0:=spec_FitsAll.mono_l k
  ·intro y0 y1 y2
   unfold spec_FitsAll.l0
   repeat' first
   | (with_reducible exact ih0 _ _ _)
   | (with_reducible exact LeO.refl _)
   | (with_reducible exact LeO.none _)
   | (with_reducible refine LeO.ite ?_ ?_)
   | (with_reducible refine LeO.bind ?_ (fun _=>?_))
   | exact ih0 _ _ _
   | exact LeO.none _
   | refine LeO.ite ?_ ?_
   | refine LeO.bind ?_ (fun _=>?_)
theorem spec_FitsAll.mono : ∀ a0 a1 k,LeO (spec_FitsAll.f k a0 a1) (spec_FitsAll.f (k + 1) a0 a1):=by
 intro a0 a1 k
 have ih0:=spec_FitsAll.mono_l k
 unfold spec_FitsAll.f
 repeat' first
   | (with_reducible exact ih0 _ _ _)
   | (with_reducible exact LeO.refl _)
   | (with_reducible exact LeO.none _)
   | (with_reducible refine LeO.ite ?_ ?_)
   | (with_reducible refine LeO.bind ?_ (fun _=>?_))
   | exact ih0 _ _ _
   | exact LeO.none _
   | refine LeO.ite ?_ ?_
   | refine LeO.bind ?_ (fun _=>?_)
def spec_FitsAll.T6 : Bool × List (List Nat × List Nat):=(true,[([],[]),([],[]),([0,1],[0,1]),([2],[2]),([],[]),([],[]),([4,5],[4,5]),([6],[6]),([3,7],[3,7]),([8],[8])])
def spec_FitsAll.B6 : List Nat:=[0,0,3,7,0,0,48,112,255,511]
theorem spec_FitsAll.tab6 : rtab .any (opsOf Try.f111 6) = spec_FitsAll.T6:=by kernel_rfl
theorem spec_FitsAll.bits6 : waitsOk spec_FitsAll.T6.2 spec_FitsAll.B6 = true:=by kernel_rfl
set_option maxHeartbeats 8000000 in
set_option maxRecDepth 100000 in
theorem spec_FitsAll.calls (k : Nat) (A0 : Option Addr) (c0 : Nat) (l0 : List (S119)) (A1 : Option Addr) (c1 : Nat) (l1 : List (S116)) (r : Bool) (w : World) (hr0 : Kd.C k119 w A0 l0.length l0) (hc0 : l0.length ≤ c0) (hr1 : Kd.C k116 w A1 l1.length l1) (hc1 : l1.length ≤ c1) (h : spec_FitsAll.f k l0 l1 = some r) :
  Calls Try.prog 111 #[.slice A0 l0.length c0,.slice A1 l1.length c1] w fun e w'=>e = .returned (.bool r) ∧ Below w.heap.size w w':=by
 have hu119:=Try.underlying119
 have hu116:=Try.underlying116
 have HR0:=aM_ hr0
 have HC0:=aM_ hc0
 clear hr0 hc0
 have HR1:=aM_ hr1
 have HC1:=aM_ hc1
 clear hr1 hc1
 have HB:=aM_ (Below.refl w.heap.size w)
 have H : (if (l1.length : Int) > (l0.length : Int) then (some false) else (spec_FitsAll.l0 k l0 l1 0)) = some r:=h
 clear h
 by_cases c3 : (l1.length : Int) > (l0.length : Int)
 ·rw [if_pos c3] at H
  have c3b0 : decide ((l0.length : Int) < (l1.length : Int)) = true:=decide_eq_true c3
  have c3b1 : decide (l0.length < l1.length) = true:=decide_eq_true (Int.ofNat_lt.mp c3)
  clear c3
  obtain rfl:=Option.some.inj H
  go_enter Try.func111,Try.ntmps111
  go_wp2
  go_ret
  exact ⟨by first | rfl | (simp [errW_none,errW_some] <;> rfl) | (simp [*, errW_none,errW_some] <;> rfl),by exact bZ_ HB⟩
 ·rw [if_neg c3] at H
  have c3b0 : decide ((l0.length : Int) < (l1.length : Int)) = false:=decide_eq_false c3
  have c3b1 : decide (l0.length < l1.length) = false:=decide_eq_false (fun h=>c3 (Int.ofNat_lt.mpr h))
  clear c3
  have H':=aM_ H
  clear H
  go_enter Try.func111,Try.ntmps111
  go_wp2
  (try simp only [Act.put,sI_,sS_,sZ_])
  go_loopg [5] k (fun kq v5 w'=>∃ (x5_1 : Int),v5 = .int .i64 x5_1 ∧ Aside0 (spec_FitsAll.l0 kq l0 l1 x5_1 = some r) ∧ Aside0 (kq ≤ k) ∧ Aside0 (Below w.heap.size w w'))
  case atStart=>exact ⟨(0),(by first | rfl | (simp;done) | (simp [*];done)),H', ⟨Nat.le_refl _⟩,⟨by exact bZ_ HB⟩⟩
  case round =>
   clear H'
   try clear c1
   try clear p2
   try clear c3
   try clear c3b0
   try clear c3b1
   obtain ⟨x5_1,rfl,HA,HK1,HB⟩:=hrel
   cases gk with
   | zero=>exact absurd HA.out (by simp [spec_FitsAll.l0])
   | succ k1 =>
    have H:=HA.out
    clear HA
    simp only [spec_FitsAll.l0] at H
    by_cases c4 : x5_1 < (l1.length : Int)
    ·rw [if_pos c4] at H
     have c4b0 : decide (x5_1 < (l1.length : Int)) = true:=decide_eq_true c4
     clear c4
     by_cases c5 : 0 ≤ x5_1
     ·rw [if_pos c5] at H
      have c5b0 : decide (0 ≤ x5_1) = true:=decide_eq_true c5
      clear c5
      by_cases c6 : x5_1 < (l0.length : Int)
      ·rw [if_pos c6] at H
       have c6b0 : decide (x5_1 < (l0.length : Int)) = true:=decide_eq_true c6
       clear c6
       replace H:=oB_ H
       obtain ⟨t266,A70,H⟩:=H
       replace H : (if t266 = true then (spec_FitsAll.l0 k1 l0 l1 (wrap64 (x5_1 + 1))) else (some false)) = some r:=H
       have A7:=aM_ A70
       clear A70
       by_cases c8 : t266 = true
       ·subst c8
        have H1 : (spec_FitsAll.l0 k1 l0 l1 (wrap64 (x5_1 + 1))) = some r:=by rw [if_pos rfl] at H;exact H
        clear H
        have H:=H1
        clear H1
        have H':=aM_ H
        clear H
        try go_wp2
        have n0_:=aM_ (bD_ HB.out)
        clear HB
        have HB:=n0_
        clear n0_
        have p264 : 0 ≤ (x5_1 : Int):=oT_ (by first | (with_reducible assumption) | assumption)
        have q264 : x5_1 < (l0.length : Int):=oT_ (by first | (with_reducible assumption) | assumption)
        obtain ⟨ad264,e264,hx264_0,hx264_1,hx264_2,hx264_3⟩:=at_T119 HR0.out x5_1 p264 q264
        have hw264_3:=hx264_3
        have hw264_2:=hx264_2
        have hw264_1:=hx264_1
        have hw264_0:=hx264_0
        cases e264
        replace hx264_0:=(HB.out.cell (wL_ w _ hx264_0)).trans hx264_0
        replace hx264_1:=(HB.out.cell (wL_ w _ hx264_1)).trans hx264_1
        replace hx264_2:=(HB.out.cell (wL_ w _ hx264_2)).trans hx264_2
        replace hx264_3:=(HB.out.cell (wL_ w _ hx264_3)).trans hx264_3
        replace p264:=eq_true p264
        replace q264:=eq_true q264
        have p265 : 0 ≤ (x5_1 : Int):=oT_ (by first | (with_reducible assumption) | assumption)
        have q265 : x5_1 < (l1.length : Int):=oT_ (by first | (with_reducible assumption) | assumption)
        obtain ⟨ad265,e265,hx265_0,hx265_1,hx265_2⟩:=at_T116 HR1.out x5_1 p265 q265
        have hw265_2:=hx265_2
        have hw265_1:=hx265_1
        have hw265_0:=hx265_0
        cases e265
        replace hx265_0:=(HB.out.cell (wL_ w _ hx265_0)).trans hx265_0
        replace hx265_1:=(HB.out.cell (wL_ w _ hx265_1)).trans hx265_1
        replace hx265_2:=(HB.out.cell (wL_ w _ hx265_2)).trans hx265_2
        replace p265:=eq_true p265
        replace q265:=eq_true q265
        refine start_ (n:=10) (S:=fun w'=>w'.cell? (ad264.add ((x5_1).toNat * 4)) = some (.int .i64 ((rd_T119 l0 x5_1).f0)) ∧ w'.cell? ⟨(ad264.add ((x5_1).toNat * 4)).block,(ad264.add ((x5_1).toNat * 4)).off + 1,none⟩ = some (.int .i64 ((rd_T119 l0 x5_1).f1)) ∧ w'.cell? ⟨(ad264.add ((x5_1).toNat * 4)).block,(ad264.add ((x5_1).toNat * 4)).off + 2,none⟩ = some (.bool ((rd_T119 l0 x5_1).f2)) ∧ w'.cell? ⟨(ad264.add ((x5_1).toNat * 4)).block,(ad264.add ((x5_1).toNat * 4)).off + 3,none⟩ = some (.bool ((rd_T119 l0 x5_1).f3)) ∧ w'.cell? (ad265.add ((x5_1).toNat * 3)) = some (.int .i64 ((rd_T116 l1 x5_1).f0)) ∧ w'.cell? ⟨(ad265.add ((x5_1).toNat * 3)).block,(ad265.add ((x5_1).toNat * 3)).off + 1,none⟩ = some (.int .i64 ((rd_T116 l1 x5_1).f1)) ∧ w'.cell? ⟨(ad265.add ((x5_1).toNat * 3)).block,(ad265.add ((x5_1).toNat * 3)).off + 2,none⟩ = some (.string ((rd_T116 l1 x5_1).f2))) (ds:=[]) (tb_ 0 10) (by kernel_rfl) rfl rfl ⟨((HB.out.cell (wL_ w _ hw264_0)).trans hw264_0),((HB.out.cell (wL_ w _ hw264_1)).trans hw264_1),((HB.out.cell (wL_ w _ hw264_2)).trans hw264_2),((HB.out.cell (wL_ w _ hw264_3)).trans hw264_3),((HB.out.cell (wL_ w _ hw265_0)).trans hw265_0),((HB.out.cell (wL_ w _ hw265_1)).trans hw265_1),((HB.out.cell (wL_ w _ hw265_2)).trans hw265_2)⟩ (fun hHeld=>?_);refine with_tabW spec_FitsAll.tab6 spec_FitsAll.bits6 (fun HT_ HW_=>?_)
        generalize wr.drew = w9 at HB hx264_0 hx264_1 hx264_2 hx264_3 hx265_0 hx265_1 hx265_2 hHeld ⊢
        refine pure_ (i:=0) (N:=some 17) (v:=?_) (a':=?_) (tb_ 1 9) rfl rfl (any_of HT_.out (by kernel_rfl)) (fun _ _ _ h=>h) (Or.inl ⟨by rfl,?_⟩) ?_ ?_
        rotate_left
        ·intro w'
         go_simp
         with_reducible rfl
        rotate_left
        ·simp only [Act.put,sI_,sZ_,sS_,i64_w,i32_w]
         rfl
        refine pure_ (i:=1) (N:=some 18) (v:=?_) (a':=?_) (tb_ 2 8) rfl rfl (any_of HT_.out (by kernel_rfl)) (fun _ _ _ h=>h) (Or.inl ⟨by rfl,?_⟩) ?_ ?_
        rotate_left
        ·intro w'
         go_simp
         with_reducible rfl
        rotate_left
        ·simp only [Act.put,sI_,sZ_,sS_,i64_w,i32_w]
         rfl
        refine pure_ (i:=2) (N:=some 19) (v:=?_) (a':=?_) (tb_ 3 7) rfl rfl (any_of HT_.out (by kernel_rfl)) (fun _ _ _ h=>h) (Or.inl ⟨by rfl,?_⟩) ?_ ?_
        rotate_left
        ·intro w'
         go_simp
         with_reducible rfl
        rotate_left
        ·simp only [Act.put,sI_,sZ_,sS_,i64_w,i32_w]
         rfl
        refine pure_ (i:=4) (N:=some 21) (v:=?_) (a':=?_) #[true,true,true,false,true,false,false,false,false,false] rfl rfl (any_of HT_.out (by kernel_rfl)) (fun _ _ _ h=>h) (Or.inl ⟨by rfl,?_⟩) ?_ ?_
        rotate_left
        ·intro w'
         go_simp
         with_reducible rfl
        rotate_left
        ·simp only [Act.put,sI_,sZ_,sS_,i64_w,i32_w]
         rfl
        refine pure_ (i:=5) (N:=some 22) (v:=?_) (a':=?_) #[true,true,true,false,true,true,false,false,false,false] rfl rfl (any_of HT_.out (by kernel_rfl)) (fun _ _ _ h=>h) (Or.inl ⟨by rfl,?_⟩) ?_ ?_
        rotate_left
        ·intro w'
         go_simp
         with_reducible rfl
        rotate_left
        ·simp only [Act.put,sI_,sZ_,sS_,i64_w,i32_w]
         rfl
        refine pure_ (i:=6) (N:=some 23) (v:=?_) (a':=?_) #[true,true,true,false,true,true,true,false,false,false] rfl rfl (any_of HT_.out (by kernel_rfl)) (fun _ _ _ h=>h) (Or.inl ⟨by rfl,?_⟩) ?_ ?_
        rotate_left
        ·intro w'
         go_simp
         with_reducible rfl
        rotate_left
        ·simp only [Act.put,sI_,sZ_,sS_,i64_w,i32_w]
         rfl
        refine take_ (i:=3) (N:=some 20) (v:=?_) (a':=?_) (tb_ 7 3) rfl rfl (take_ofW HT_.out HW_.out (by kernel_rfl)) (fun _ _ _ h=>h) (Or.inl ⟨by rfl,?_⟩) hHeld ?_ ?_
        rotate_left
        ·rintro w' ⟨s0,s1,s2,s3,s4,s5,s6⟩
         go_simp
         with_reducible rfl
        rotate_left
        ·simp only [Act.put,sI_,sZ_,sS_,i64_w,i32_w]
         rfl
        refine take_ (i:=7) (N:=some 24) (v:=?_) (a':=?_) (tb_ 8 2) rfl rfl (take_ofW HT_.out HW_.out (by kernel_rfl)) (fun _ _ _ h=>h) (Or.inl ⟨by rfl,?_⟩) hHeld ?_ ?_
        rotate_left
        ·rintro w' ⟨s0,s1,s2,s3,s4,s5,s6⟩
         go_simp
         with_reducible rfl
        rotate_left
        ·simp only [Act.put,sI_,sZ_,sS_,i64_w,i32_w]
         rfl
        refine one_ (i:=8) (N:=some 25) (tb_ 9 1) rfl rfl (one_of HT_.out (by kernel_rfl)) (by decide) (fun K hK=>?_)
        refine goes_ Try.func160 (by kernel_rfl) rfl #[.agg #[.int .i64 ((rd_T119 l0 x5_1).f0),.int .i64 ((rd_T119 l0 x5_1).f1),.bool ((rd_T119 l0 x5_1).f2),.bool ((rd_T119 l0 x5_1).f3)],.agg #[.int .i64 ((rd_T116 l1 x5_1).f0),.int .i64 ((rd_T116 l1 x5_1).f1),.string ((rd_T116 l1 x5_1).f2)]] (by rfl) rfl rfl (by (try simp only [mA_,mC_,mN_]);first | done | rfl | (simp only [lD_,lT_];rfl)) ?_
        with_reducible refine (spec_Fits.calls ((rd_T119 l0 x5_1).f0) ((rd_T119 l0 x5_1).f1) ((rd_T119 l0 x5_1).f2) ((rd_T119 l0 x5_1).f3) ((rd_T116 l1 x5_1).f0) ((rd_T116 l1 x5_1).f1) ((rd_T116 l1 x5_1).f2) true _ A7.out).mono ?_
        rintro e w10 ⟨rfl,hb⟩
        refine ⟨_,rfl,?_⟩
        have n0_:=aM_ (bT_ (by exact bZ_ HB) hb)
        clear HB
        have HB:=n0_
        clear n0_
        (try clear hb)
        (try clear hb2)
        (try clear hk)
        (try clear hi)
        refine hK.out _ _ ⟨((HB.out.cell (wL_ w _ hw264_0)).trans hw264_0),((HB.out.cell (wL_ w _ hw264_1)).trans hw264_1),((HB.out.cell (wL_ w _ hw264_2)).trans hw264_2),((HB.out.cell (wL_ w _ hw264_3)).trans hw264_3),((HB.out.cell (wL_ w _ hw265_0)).trans hw265_0),((HB.out.cell (wL_ w _ hw265_1)).trans hw265_1),((HB.out.cell (wL_ w _ hw265_2)).trans hw265_2)⟩ (fun hHeld=>?_)
        clear hK K
        refine norm_ (a':=?_) ?_ ?_
        rotate_left
        ·show Act.put _ (some 25) _ = _
         simp only [Act.put,sI_,sZ_,sS_,i64_w,i32_w]
         rfl
        refine pure_ (i:=9) (N:=some 26) (v:=?_) (a':=?_) (tb_ 10 0) rfl rfl (any_of HT_.out (by kernel_rfl)) (fun _ _ _ h=>h) (Or.inl ⟨by rfl,?_⟩) ?_ ?_
        rotate_left
        ·intro w'
         go_simp
         with_reducible rfl
        rotate_left
        ·simp only [Act.put,sI_,sZ_,sS_,i64_w,i32_w]
         rfl
        refine done_ (done_of HT_.out (by kernel_rfl)) ?_
        try go_wp2
        go_roundg k1
        case measure=>have:=HK1.out;omega
        case rel=>exact ⟨(wrap64 (x5_1 + 1)),(by first | rfl | (simp;done) | (simp [*];done)),H', ⟨by have:=HK1.out;omega⟩,⟨by exact bZ_ HB⟩⟩
       ·replace c8:=Bool.eq_false_iff.mpr c8
        subst c8
        have H1 : (some false) = some r:=by rw [if_neg (show ¬ (false = true) by decide)] at H;exact H
        clear H
        have H:=H1
        clear H1
        obtain rfl:=Option.some.inj H
        try go_wp2
        have n0_:=aM_ (bD_ HB.out)
        clear HB
        have HB:=n0_
        clear n0_
        have p264 : 0 ≤ (x5_1 : Int):=oT_ (by first | (with_reducible assumption) | assumption)
        have q264 : x5_1 < (l0.length : Int):=oT_ (by first | (with_reducible assumption) | assumption)
        obtain ⟨ad264,e264,hx264_0,hx264_1,hx264_2,hx264_3⟩:=at_T119 HR0.out x5_1 p264 q264
        have hw264_3:=hx264_3
        have hw264_2:=hx264_2
        have hw264_1:=hx264_1
        have hw264_0:=hx264_0
        cases e264
        replace hx264_0:=(HB.out.cell (wL_ w _ hx264_0)).trans hx264_0
        replace hx264_1:=(HB.out.cell (wL_ w _ hx264_1)).trans hx264_1
        replace hx264_2:=(HB.out.cell (wL_ w _ hx264_2)).trans hx264_2
        replace hx264_3:=(HB.out.cell (wL_ w _ hx264_3)).trans hx264_3
        replace p264:=eq_true p264
        replace q264:=eq_true q264
        have p265 : 0 ≤ (x5_1 : Int):=oT_ (by first | (with_reducible assumption) | assumption)
        have q265 : x5_1 < (l1.length : Int):=oT_ (by first | (with_reducible assumption) | assumption)
        obtain ⟨ad265,e265,hx265_0,hx265_1,hx265_2⟩:=at_T116 HR1.out x5_1 p265 q265
        have hw265_2:=hx265_2
        have hw265_1:=hx265_1
        have hw265_0:=hx265_0
        cases e265
        replace hx265_0:=(HB.out.cell (wL_ w _ hx265_0)).trans hx265_0
        replace hx265_1:=(HB.out.cell (wL_ w _ hx265_1)).trans hx265_1
        replace hx265_2:=(HB.out.cell (wL_ w _ hx265_2)).trans hx265_2
        replace p265:=eq_true p265
        replace q265:=eq_true q265
        refine start_ (n:=10) (S:=fun w'=>w'.cell? (ad264.add ((x5_1).toNat * 4)) = some (.int .i64 ((rd_T119 l0 x5_1).f0)) ∧ w'.cell? ⟨(ad264.add ((x5_1).toNat * 4)).block,(ad264.add ((x5_1).toNat * 4)).off + 1,none⟩ = some (.int .i64 ((rd_T119 l0 x5_1).f1)) ∧ w'.cell? ⟨(ad264.add ((x5_1).toNat * 4)).block,(ad264.add ((x5_1).toNat * 4)).off + 2,none⟩ = some (.bool ((rd_T119 l0 x5_1).f2)) ∧ w'.cell? ⟨(ad264.add ((x5_1).toNat * 4)).block,(ad264.add ((x5_1).toNat * 4)).off + 3,none⟩ = some (.bool ((rd_T119 l0 x5_1).f3)) ∧ w'.cell? (ad265.add ((x5_1).toNat * 3)) = some (.int .i64 ((rd_T116 l1 x5_1).f0)) ∧ w'.cell? ⟨(ad265.add ((x5_1).toNat * 3)).block,(ad265.add ((x5_1).toNat * 3)).off + 1,none⟩ = some (.int .i64 ((rd_T116 l1 x5_1).f1)) ∧ w'.cell? ⟨(ad265.add ((x5_1).toNat * 3)).block,(ad265.add ((x5_1).toNat * 3)).off + 2,none⟩ = some (.string ((rd_T116 l1 x5_1).f2))) (ds:=[]) (tb_ 0 10) (by kernel_rfl) rfl rfl ⟨((HB.out.cell (wL_ w _ hw264_0)).trans hw264_0),((HB.out.cell (wL_ w _ hw264_1)).trans hw264_1),((HB.out.cell (wL_ w _ hw264_2)).trans hw264_2),((HB.out.cell (wL_ w _ hw264_3)).trans hw264_3),((HB.out.cell (wL_ w _ hw265_0)).trans hw265_0),((HB.out.cell (wL_ w _ hw265_1)).trans hw265_1),((HB.out.cell (wL_ w _ hw265_2)).trans hw265_2)⟩ (fun hHeld=>?_);refine with_tabW spec_FitsAll.tab6 spec_FitsAll.bits6 (fun HT_ HW_=>?_)
        generalize wr.drew = w11 at HB hx264_0 hx264_1 hx264_2 hx264_3 hx265_0 hx265_1 hx265_2 hHeld ⊢
        refine pure_ (i:=0) (N:=some 17) (v:=?_) (a':=?_) (tb_ 1 9) rfl rfl (any_of HT_.out (by kernel_rfl)) (fun _ _ _ h=>h) (Or.inl ⟨by rfl,?_⟩) ?_ ?_
        rotate_left
        ·intro w'
         go_simp
         with_reducible rfl
        rotate_left
        ·simp only [Act.put,sI_,sZ_,sS_,i64_w,i32_w]
         rfl
        refine pure_ (i:=1) (N:=some 18) (v:=?_) (a':=?_) (tb_ 2 8) rfl rfl (any_of HT_.out (by kernel_rfl)) (fun _ _ _ h=>h) (Or.inl ⟨by rfl,?_⟩) ?_ ?_
        rotate_left
        ·intro w'
         go_simp
         with_reducible rfl
        rotate_left
        ·simp only [Act.put,sI_,sZ_,sS_,i64_w,i32_w]
         rfl
        refine pure_ (i:=2) (N:=some 19) (v:=?_) (a':=?_) (tb_ 3 7) rfl rfl (any_of HT_.out (by kernel_rfl)) (fun _ _ _ h=>h) (Or.inl ⟨by rfl,?_⟩) ?_ ?_
        rotate_left
        ·intro w'
         go_simp
         with_reducible rfl
        rotate_left
        ·simp only [Act.put,sI_,sZ_,sS_,i64_w,i32_w]
         rfl
        refine pure_ (i:=4) (N:=some 21) (v:=?_) (a':=?_) #[true,true,true,false,true,false,false,false,false,false] rfl rfl (any_of HT_.out (by kernel_rfl)) (fun _ _ _ h=>h) (Or.inl ⟨by rfl,?_⟩) ?_ ?_
        rotate_left
        ·intro w'
         go_simp
         with_reducible rfl
        rotate_left
        ·simp only [Act.put,sI_,sZ_,sS_,i64_w,i32_w]
         rfl
        refine pure_ (i:=5) (N:=some 22) (v:=?_) (a':=?_) #[true,true,true,false,true,true,false,false,false,false] rfl rfl (any_of HT_.out (by kernel_rfl)) (fun _ _ _ h=>h) (Or.inl ⟨by rfl,?_⟩) ?_ ?_
        rotate_left
        ·intro w'
         go_simp
         with_reducible rfl
        rotate_left
        ·simp only [Act.put,sI_,sZ_,sS_,i64_w,i32_w]
         rfl
        refine pure_ (i:=6) (N:=some 23) (v:=?_) (a':=?_) #[true,true,true,false,true,true,true,false,false,false] rfl rfl (any_of HT_.out (by kernel_rfl)) (fun _ _ _ h=>h) (Or.inl ⟨by rfl,?_⟩) ?_ ?_
        rotate_left
        ·intro w'
         go_simp
         with_reducible rfl
        rotate_left
        ·simp only [Act.put,sI_,sZ_,sS_,i64_w,i32_w]
         rfl
        refine take_ (i:=3) (N:=some 20) (v:=?_) (a':=?_) (tb_ 7 3) rfl rfl (take_ofW HT_.out HW_.out (by kernel_rfl)) (fun _ _ _ h=>h) (Or.inl ⟨by rfl,?_⟩) hHeld ?_ ?_
        rotate_left
        ·rintro w' ⟨s0,s1,s2,s3,s4,s5,s6⟩
         go_simp
         with_reducible rfl
        rotate_left
        ·simp only [Act.put,sI_,sZ_,sS_,i64_w,i32_w]
         rfl
        refine take_ (i:=7) (N:=some 24) (v:=?_) (a':=?_) (tb_ 8 2) rfl rfl (take_ofW HT_.out HW_.out (by kernel_rfl)) (fun _ _ _ h=>h) (Or.inl ⟨by rfl,?_⟩) hHeld ?_ ?_
        rotate_left
        ·rintro w' ⟨s0,s1,s2,s3,s4,s5,s6⟩
         go_simp
         with_reducible rfl
        rotate_left
        ·simp only [Act.put,sI_,sZ_,sS_,i64_w,i32_w]
         rfl
        refine one_ (i:=8) (N:=some 25) (tb_ 9 1) rfl rfl (one_of HT_.out (by kernel_rfl)) (by decide) (fun K hK=>?_)
        refine goes_ Try.func160 (by kernel_rfl) rfl #[.agg #[.int .i64 ((rd_T119 l0 x5_1).f0),.int .i64 ((rd_T119 l0 x5_1).f1),.bool ((rd_T119 l0 x5_1).f2),.bool ((rd_T119 l0 x5_1).f3)],.agg #[.int .i64 ((rd_T116 l1 x5_1).f0),.int .i64 ((rd_T116 l1 x5_1).f1),.string ((rd_T116 l1 x5_1).f2)]] (by rfl) rfl rfl (by (try simp only [mA_,mC_,mN_]);first | done | rfl | (simp only [lD_,lT_];rfl)) ?_
        with_reducible refine (spec_Fits.calls ((rd_T119 l0 x5_1).f0) ((rd_T119 l0 x5_1).f1) ((rd_T119 l0 x5_1).f2) ((rd_T119 l0 x5_1).f3) ((rd_T116 l1 x5_1).f0) ((rd_T116 l1 x5_1).f1) ((rd_T116 l1 x5_1).f2) false _ A7.out).mono ?_
        rintro e w12 ⟨rfl,hb⟩
        refine ⟨_,rfl,?_⟩
        have n0_:=aM_ (bT_ (by exact bZ_ HB) hb)
        clear HB
        have HB:=n0_
        clear n0_
        (try clear hb)
        (try clear hb2)
        (try clear hk)
        (try clear hi)
        refine hK.out _ _ ⟨((HB.out.cell (wL_ w _ hw264_0)).trans hw264_0),((HB.out.cell (wL_ w _ hw264_1)).trans hw264_1),((HB.out.cell (wL_ w _ hw264_2)).trans hw264_2),((HB.out.cell (wL_ w _ hw264_3)).trans hw264_3),((HB.out.cell (wL_ w _ hw265_0)).trans hw265_0),((HB.out.cell (wL_ w _ hw265_1)).trans hw265_1),((HB.out.cell (wL_ w _ hw265_2)).trans hw265_2)⟩ (fun hHeld=>?_)
        clear hK K
        refine norm_ (a':=?_) ?_ ?_
        rotate_left
        ·show Act.put _ (some 25) _ = _
         simp only [Act.put,sI_,sZ_,sS_,i64_w,i32_w]
         rfl
        refine pure_ (i:=9) (N:=some 26) (v:=?_) (a':=?_) (tb_ 10 0) rfl rfl (any_of HT_.out (by kernel_rfl)) (fun _ _ _ h=>h) (Or.inl ⟨by rfl,?_⟩) ?_ ?_
        rotate_left
        ·intro w'
         go_simp
         with_reducible rfl
        rotate_left
        ·simp only [Act.put,sI_,sZ_,sS_,i64_w,i32_w]
         rfl
        refine done_ (done_of HT_.out (by kernel_rfl)) ?_
        try go_wp2
        go_ret
        exact ⟨by first | rfl | (simp [errW_none,errW_some] <;> rfl) | (simp [*, errW_none,errW_some] <;> rfl),by exact bZ_ HB⟩
      ·rw [if_neg c6] at H
       exact absurd H (by simp)
     ·rw [if_neg c5] at H
      exact absurd H (by simp)
    ·rw [if_neg c4] at H
     have c4b0 : decide (x5_1 < (l1.length : Int)) = false:=decide_eq_false c4
     clear c4
     obtain rfl:=Option.some.inj H
     go_wp2
     go_ret
     exact ⟨by first | rfl | (simp [errW_none,errW_some] <;> rfl) | (simp [*, errW_none,errW_some] <;> rfl),by exact bZ_ HB⟩
def spec_RowOk.f (k : Nat) (l0 : List (S119)) (l1 : List (S116)) : Option (Bool):=(spec_PlanOk.f k l0).bind fun t267=>(if t267 = true then (if (l1.length : Int) = (l0.length : Int) then ((spec_FitsAll.f k l0 l1).bind fun t268=>(some t268)) else (some false)) else (some false))
theorem spec_RowOk.mono : ∀ a0 a1 k,LeO (spec_RowOk.f k a0 a1) (spec_RowOk.f (k + 1) a0 a1):=by
 intro a0 a1 k
 unfold spec_RowOk.f
 repeat' first
   | (with_reducible exact spec_FitsAll.mono _ _ _)
   | (with_reducible exact spec_PlanOk.mono _ _)
   | (with_reducible exact LeO.refl _)
   | (with_reducible exact LeO.none _)
   | (with_reducible refine LeO.ite ?_ ?_)
   | (with_reducible refine LeO.bind ?_ (fun _=>?_))
   | exact spec_FitsAll.mono _ _ _
   | exact spec_PlanOk.mono _ _
   | exact LeO.none _
   | refine LeO.ite ?_ ?_
   | refine LeO.bind ?_ (fun _=>?_)
set_option maxHeartbeats 8000000 in
set_option maxRecDepth 100000 in
theorem spec_RowOk.calls (k : Nat) (A0 : Option Addr) (c0 : Nat) (l0 : List (S119)) (A1 : Option Addr) (c1 : Nat) (l1 : List (S116)) (r : Bool) (w : World) (hr0 : Kd.C k119 w A0 l0.length l0) (hc0 : l0.length ≤ c0) (hr1 : Kd.C k116 w A1 l1.length l1) (hc1 : l1.length ≤ c1) (h : spec_RowOk.f k l0 l1 = some r) :
  Calls Try.prog 45 #[.slice A0 l0.length c0,.slice A1 l1.length c1] w fun e w'=>e = .returned (.bool r) ∧ Below w.heap.size w w':=by
 have HR0:=aM_ hr0
 have HC0:=aM_ hc0
 clear hr0 hc0
 have HR1:=aM_ hr1
 have HC1:=aM_ hc1
 clear hr1 hc1
 have HB:=aM_ (Below.refl w.heap.size w)
 have H : ((spec_PlanOk.f k l0).bind fun t267=>(if t267 = true then (if (l1.length : Int) = (l0.length : Int) then ((spec_FitsAll.f k l0 l1).bind fun t268=>(some t268)) else (some false)) else (some false))) = some r:=h
 clear h
 replace H:=oB_ H
 obtain ⟨t267,A30,H⟩:=H
 replace H : (if t267 = true then (if (l1.length : Int) = (l0.length : Int) then ((spec_FitsAll.f k l0 l1).bind fun t268=>(some t268)) else (some false)) else (some false)) = some r:=H
 have A3:=aM_ A30
 clear A30
 by_cases c4 : t267 = true
 ·subst c4
  have H1 : (if (l1.length : Int) = (l0.length : Int) then ((spec_FitsAll.f k l0 l1).bind fun t268=>(some t268)) else (some false)) = some r:=by rw [if_pos rfl] at H;exact H
  clear H
  have H:=H1
  clear H1
  by_cases c5 : (l1.length : Int) = (l0.length : Int)
  ·rw [if_pos c5] at H
   have c5b0 : ((l1.length : Int) == (l0.length : Int)) = true:=beq_iff_eq.mpr c5
   have c5b1 : ((l1.length : Int) != (l0.length : Int)) = false:=bne_eq_false_iff_eq.mpr c5
   have c5b2 : (l1.length == l0.length) = true:=by first | simpa using c5 | (simp at c5 ⊢;omega)
   clear c5
   replace H:=oB_ H
   obtain ⟨t268,A60,H⟩:=H
   replace H : (some t268) = some r:=H
   have A6:=aM_ A60
   clear A60
   obtain rfl:=Option.some.inj H
   go_enter Try.func45,Try.ntmps45
   go_wp2_with (first | ((with_reducible refine gate_callee (f:=110) rfl ?_);refine goesL_ (some 6) rfl rfl Try.func110 (by kernel_rfl) rfl #[.slice A0 l0.length c0] rfl (by (try simp only [mA_,mC_,mN_]);first | done | rfl | (simp only [lD_,lT_];rfl)) ?_;(with_reducible refine (spec_PlanOk.calls k _ _ l0 true _ ?side1 ?side2 A3.out).mono ?_);(case side1=>repeat (first | exact HR0.out | (with_reducible refine cA_ ?_ _) | (with_reducible refine cN_ ?_ _) | (with_reducible refine cD_ ?_)));(case side2=>exact HC0.out);rintro e w7 ⟨rfl,hb⟩;refine ⟨_,rfl,?_⟩;have n0_:=aM_ (bT_ (by exact bZ_ HB) hb);clear HB;have HB:=n0_;clear n0_;(try clear hb);(try clear hb2);(try clear hk);(try clear hi)) | (go_at_call 111;(with_reducible refine (spec_FitsAll.calls k _ _ l0 _ _ l1 t268 _ ?side1 ?side2 ?side3 ?side4 A6.out).mono ?_);(case side1=>repeat (first | exact (Kd.C_below HR0.out HB.out) | (with_reducible refine cA_ ?_ _) | (with_reducible refine cN_ ?_ _) | (with_reducible refine cD_ ?_)));(case side2=>exact HC0.out);(case side3=>repeat (first | exact (Kd.C_below HR1.out HB.out) | (with_reducible refine cA_ ?_ _) | (with_reducible refine cN_ ?_ _) | (with_reducible refine cD_ ?_)));(case side4=>exact HC1.out);rintro e w8 ⟨rfl,hb⟩;have n0_:=aM_ (bT_ (by exact bZ_ HB) hb);clear HB;have HB:=n0_;clear n0_;(try clear hb);(try clear hb2);(try clear hk);(try clear hi)))
   go_ret
   exact ⟨by first | rfl | (simp [errW_none,errW_some] <;> rfl) | (simp [*, errW_none,errW_some] <;> rfl),by exact bZ_ HB⟩
  ·rw [if_neg c5] at H
   have c5b0 : ((l1.length : Int) == (l0.length : Int)) = false:=beq_eq_false_iff_ne.mpr c5
   have c5b1 : ((l1.length : Int) != (l0.length : Int)) = true:=bne_iff_ne.mpr c5
   have c5b2 : (l1.length == l0.length) = false:=by first | simpa using c5 | (simp at c5 ⊢;omega)
   obtain rfl:=Option.some.inj H
   go_enter Try.func45,Try.ntmps45
   go_wp2_with (first | ((with_reducible refine gate_callee (f:=110) rfl ?_);refine goesL_ (some 6) rfl rfl Try.func110 (by kernel_rfl) rfl #[.slice A0 l0.length c0] rfl (by (try simp only [mA_,mC_,mN_]);first | done | rfl | (simp only [lD_,lT_];rfl)) ?_;(with_reducible refine (spec_PlanOk.calls k _ _ l0 true _ ?side1 ?side2 A3.out).mono ?_);(case side1=>repeat (first | exact HR0.out | (with_reducible refine cA_ ?_ _) | (with_reducible refine cN_ ?_ _) | (with_reducible refine cD_ ?_)));(case side2=>exact HC0.out);rintro e w9 ⟨rfl,hb⟩;refine ⟨_,rfl,?_⟩;have n0_:=aM_ (bT_ (by exact bZ_ HB) hb);clear HB;have HB:=n0_;clear n0_;(try clear hb);(try clear hb2);(try clear hk);(try clear hi)))
   go_ret
   exact ⟨by first | rfl | (simp [errW_none,errW_some] <;> rfl) | (simp [*, errW_none,errW_some] <;> rfl),by exact bZ_ HB⟩
 ·replace c4:=Bool.eq_false_iff.mpr c4
  subst c4
  have H1 : (some false) = some r:=by rw [if_neg (show ¬ (false = true) by decide)] at H;exact H
  clear H
  have H:=H1
  clear H1
  obtain rfl:=Option.some.inj H
  go_enter Try.func45,Try.ntmps45
  go_wp2_with (first | ((with_reducible refine gate_callee (f:=110) rfl ?_);refine goesL_ (some 6) rfl rfl Try.func110 (by kernel_rfl) rfl #[.slice A0 l0.length c0] rfl (by (try simp only [mA_,mC_,mN_]);first | done | rfl | (simp only [lD_,lT_];rfl)) ?_;(with_reducible refine (spec_PlanOk.calls k _ _ l0 false _ ?side1 ?side2 A3.out).mono ?_);(case side1=>repeat (first | exact HR0.out | (with_reducible refine cA_ ?_ _) | (with_reducible refine cN_ ?_ _) | (with_reducible refine cD_ ?_)));(case side2=>exact HC0.out);rintro e w10 ⟨rfl,hb⟩;refine ⟨_,rfl,?_⟩;have n0_:=aM_ (bT_ (by exact bZ_ HB) hb);clear HB;have HB:=n0_;clear n0_;(try clear hb);(try clear hb2);(try clear hk);(try clear hi)))
  go_ret
  exact ⟨by first | rfl | (simp [errW_none,errW_some] <;> rfl) | (simp [*, errW_none,errW_some] <;> rfl),by exact bZ_ HB⟩
mutual
def spec_Crc.l0 : Nat → List Int → Int → Int → Option (Int)
 | 0,_,_,_=>none
 | k + 1,x0,x3,x4=>if x4 < (x0.length : Int) then (if 0 ≤ x4 then (spec_Crc.l1 k x0 (Go.bits .xor .i64 x3 (wrap64 (rd x0 x4))) x4 0) else (none)) else (some (Go.bits .xor .i64 x3 4294967295))
def spec_Crc.l1 : Nat → List Int → Int → Int → Int → Option (Int)
 | 0,_,_,_,_=>none
 | k + 1,x0,x3,x4,x5=>if x5 < 8 then (if (Go.bits .and .i64 x3 1) = 1 then (spec_Crc.l1 k x0 (Go.bits .xor .i64 (x3 / 2) 2197175160) x4 (wrap64 (x5 + 1))) else (spec_Crc.l1 k x0 (x3 / 2) x4 (wrap64 (x5 + 1)))) else (spec_Crc.l0 k x0 x3 (wrap64 (x4 + 1)))
end
def spec_Crc.f (k : Nat) (l0 : List Int) : Option (Int):=spec_Crc.l0 k l0 4294967295 0
theorem spec_Crc.mono_l : ∀ k,(∀ y0 y1 y2,LeO (spec_Crc.l0 k y0 y1 y2) (spec_Crc.l0 (k + 1) y0 y1 y2)) ∧ (∀ y0 y1 y2 y3,LeO (spec_Crc.l1 k y0 y1 y2 y3) (spec_Crc.l1 (k + 1) y0 y1 y2 y3))
 | 0=>⟨fun _ _ _ r h=>by simp [spec_Crc.l0] at h,fun _ _ _ _ r h=>by simp [spec_Crc.l1] at h⟩
 | k + 1=>by
  obtain ⟨ih0,ih1⟩:=spec_Crc.mono_l k
  refine ⟨?_,?_⟩
  ·intro y0 y1 y2
   unfold spec_Crc.l0
   repeat' first
   | (with_reducible exact ih0 _ _ _)
   | (with_reducible exact ih1 _ _ _ _)
   | (with_reducible exact LeO.refl _)
   | (with_reducible exact LeO.none _)
   | (with_reducible refine LeO.ite ?_ ?_)
   | (with_reducible refine LeO.bind ?_ (fun _=>?_))
   | exact ih0 _ _ _
   | exact ih1 _ _ _ _
   | exact LeO.none _
   | refine LeO.ite ?_ ?_
   | refine LeO.bind ?_ (fun _=>?_)
  ·intro y0 y1 y2 y3
   unfold spec_Crc.l1
   repeat' first
   | (with_reducible exact ih0 _ _ _)
   | (with_reducible exact ih1 _ _ _ _)
   | (with_reducible exact LeO.refl _)
   | (with_reducible exact LeO.none _)
   | (with_reducible refine LeO.ite ?_ ?_)
   | (with_reducible refine LeO.bind ?_ (fun _=>?_))
   | exact ih0 _ _ _
   | exact ih1 _ _ _ _
   | exact LeO.none _
   | refine LeO.ite ?_ ?_
   | refine LeO.bind ?_ (fun _=>?_)
theorem spec_Crc.mono : ∀ a0 k,LeO (spec_Crc.f k a0) (spec_Crc.f (k + 1) a0):=by
 intro a0 k
 obtain ⟨ih0,ih1⟩:=spec_Crc.mono_l k
 unfold spec_Crc.f
 repeat' first
   | (with_reducible exact ih0 _ _ _)
   | (with_reducible exact ih1 _ _ _ _)
   | (with_reducible exact LeO.refl _)
   | (with_reducible exact LeO.none _)
   | (with_reducible refine LeO.ite ?_ ?_)
   | (with_reducible refine LeO.bind ?_ (fun _=>?_))
   | exact ih0 _ _ _
   | exact ih1 _ _ _ _
   | exact LeO.none _
   | refine LeO.ite ?_ ?_
   | refine LeO.bind ?_ (fun _=>?_)
set_option maxHeartbeats 8000000 in
set_option maxRecDepth 100000 in
theorem spec_Crc.calls (k : Nat) (A0 : Option Addr) (c0 : Nat) (l0 : List Int) (r : Int) (w : World) (hr0 : Kd.C (Kd.int .u8) w A0 l0.length l0) (hc0 : l0.length ≤ c0) (h : spec_Crc.f k l0 = some r) :
  Calls Try.prog 148 #[.slice A0 l0.length c0] w fun e w'=>e = .returned (.int .i64 r) ∧ Drawn0 w w':=by
 have HR0:=aM_ hr0
 have HC0:=aM_ hc0
 clear hr0 hc0
 have H : (spec_Crc.l0 k l0 4294967295 0) = some r:=h
 clear h
 have H':=aM_ H
 clear H
 go_enter Try.func148,Try.ntmps148
 go_wp2
 (try simp only [Act.put,sI_,sS_,sZ_])
 go_loopg [3,4] k (fun kq v3 v4 w'=>∃ (x3_1 : Int) (x4_1 : Int),v3 = .int .i64 x3_1 ∧ v4 = .int .i64 x4_1 ∧ Aside0 (spec_Crc.l0 kq l0 x3_1 x4_1 = some r) ∧ Aside0 (kq ≤ k) ∧ Drawn0 w w')
 case atStart=>exact ⟨(4294967295),(0),(by first | rfl | (simp;done) | (simp [*];done)),(by first | rfl | (simp;done) | (simp [*];done)),H', ⟨Nat.le_refl _⟩,by repeat (first | exact Drawn0.refl _ | apply Drawn0.step)⟩
 case round =>
  clear H'
  try clear c1
  obtain ⟨x3_1,x4_1,rfl,rfl,HA,HK1,⟨m1,rfl⟩⟩:=hrel
  cases gk with
  | zero=>exact absurd HA.out (by simp [spec_Crc.l0])
  | succ k1 =>
   have H:=HA.out
   clear HA
   simp only [spec_Crc.l0] at H
   by_cases c2 : x4_1 < (l0.length : Int)
   ·rw [if_pos c2] at H
    have c2b0 : decide (x4_1 < (l0.length : Int)) = true:=decide_eq_true c2
    clear c2
    by_cases c3 : 0 ≤ x4_1
    ·rw [if_pos c3] at H
     have c3b0 : decide (0 ≤ x4_1) = true:=decide_eq_true c3
     clear c3
     have H':=aM_ H
     clear H
     have p269 : 0 ≤ (x4_1 : Int):=oT_ (by first | (with_reducible assumption) | assumption)
     have q269 : x4_1 < (l0.length : Int):=oT_ (by first | (with_reducible assumption) | assumption)
     obtain ⟨ad269,e269,hx269_0⟩:=Kd.at_int HR0.out x4_1 p269 q269
     cases e269
     replace p269:=eq_true p269
     replace q269:=eq_true q269
     go_wp2
     (try simp only [Act.put,sI_,sS_,sZ_])
     go_loopg [3,5] k1 (fun kq v3 v5 w'=>∃ (x3_2 : Int) (x5_2 : Int),v3 = .int .i64 x3_2 ∧ v5 = .int .i64 x5_2 ∧ Aside0 (spec_Crc.l1 kq l0 x3_2 x4_1 x5_2 = some r) ∧ Aside0 (kq ≤ k1) ∧ Drawn0 w w')
     case atStart=>exact ⟨(Go.bits .xor .i64 x3_1 (wrap64 (rd l0 x4_1))),(0),(by first | rfl | (simp;done) | (simp [*];done)),(by first | rfl | (simp;done) | (simp [*];done)),H', ⟨Nat.le_refl _⟩,by repeat (first | exact Drawn0.refl _ | apply Drawn0.step)⟩
     case round =>
      clear H'
      try clear c1
      try clear c2
      try clear c2b0
      try clear p2
      try clear q2
      try clear hx2
      try clear c3
      try clear c3b0
      try clear hx269_0
      try clear p269
      try clear q269
      obtain ⟨x3_2,x5_2,rfl,rfl,HA,HK2,⟨m2,rfl⟩⟩:=hrel
      cases gk with
      | zero=>exact absurd HA.out (by simp [spec_Crc.l1])
      | succ k2 =>
       have H:=HA.out
       clear HA
       simp only [spec_Crc.l1] at H
       by_cases c4 : x5_2 < 8
       ·rw [if_pos c4] at H
        have c4b0 : decide (x5_2 < 8) = true:=decide_eq_true c4
        clear c4
        by_cases c5 : (Go.bits .and .i64 x3_2 1) = 1
        ·rw [if_pos c5] at H
         have c5b0 : ((Go.bits .and .i64 x3_2 1) == 1) = true:=beq_iff_eq.mpr c5
         have c5b1 : ((Go.bits .and .i64 x3_2 1) != 1) = false:=bne_eq_false_iff_eq.mpr c5
         clear c5
         have H':=aM_ H
         clear H
         go_wp2
         go_roundg k2
         case measure=>have:=HK1.out;have:=HK2.out;omega
         case rel=>exact ⟨(Go.bits .xor .i64 (x3_2 / 2) 2197175160),(wrap64 (x5_2 + 1)),(by first | rfl | (simp;done) | (simp [*];done)),(by first | rfl | (simp;done) | (simp [*];done)),H', ⟨by have:=HK1.out;have:=HK2.out;omega⟩,by repeat (first | exact Drawn0.refl _ | apply Drawn0.step)⟩
        ·rw [if_neg c5] at H
         have c5b0 : ((Go.bits .and .i64 x3_2 1) == 1) = false:=beq_eq_false_iff_ne.mpr c5
         have c5b1 : ((Go.bits .and .i64 x3_2 1) != 1) = true:=bne_iff_ne.mpr c5
         have H':=aM_ H
         clear H
         go_wp2
         go_roundg k2
         case measure=>have:=HK1.out;have:=HK2.out;omega
         case rel=>exact ⟨(x3_2 / 2),(wrap64 (x5_2 + 1)),(by first | rfl | (simp;done) | (simp [*];done)),(by first | rfl | (simp;done) | (simp [*];done)),H', ⟨by have:=HK1.out;have:=HK2.out;omega⟩,by repeat (first | exact Drawn0.refl _ | apply Drawn0.step)⟩
       ·rw [if_neg c4] at H
        have c4b0 : decide (x5_2 < 8) = false:=decide_eq_false c4
        clear c4
        have H':=aM_ H
        clear H
        go_wp2
        go_roundg k2
        case measure=>have:=HK1.out;have:=HK2.out;omega
        case rel=>exact ⟨(x3_2),(wrap64 (x4_1 + 1)),(by first | rfl | (simp;done) | (simp [*];done)),(by first | rfl | (simp;done) | (simp [*];done)),H', ⟨by have:=HK1.out;have:=HK2.out;omega⟩,by repeat (first | exact Drawn0.refl _ | apply Drawn0.step)⟩
    ·rw [if_neg c3] at H
     exact absurd H (by simp)
   ·rw [if_neg c2] at H
    have c2b0 : decide (x4_1 < (l0.length : Int)) = false:=decide_eq_false c2
    clear c2
    obtain rfl:=Option.some.inj H
    go_wp2
    go_ret
    exact ⟨by first | rfl | (simp;done) | (simp [*];done),by repeat (first | exact Drawn0.refl _ | apply Drawn0.step)⟩
def spec_GetSum.l0 : Nat → List Int → Int → Int → Int → Option (List Int × Bool)
 | 0,_,_,_,_=>none
 | k + 1,x0,x4,x5,x6=>if x6 < (x0.length : Int) then (if 0 ≤ x6 then (spec_GetSum.l0 k x0 x4 (Go.bits .or .i64 (wrap64 (x5 * 256)) (wrap64 (rd x0 x6))) (wrap64 (x6 + 1))) else (none)) else (if 0 ≤ x4 then (if x4 ≤ (x0.length : Int) then ((spec_Crc.f k (x0.take (x4 : Int).toNat)).bind fun t278=>(if x5 = t278 then ((some (([] : List Int) : List Int)).bind fun y279=>((some (x0.take (x4 : Int).toNat : List Int)).bind fun y282=>(if y279.length + y282.length < 140737488355328 then (some ((y279 ++ y282),true)) else (none)))) else (some ((([] : List Int)),false)))) else (none)) else (none))
def spec_GetSum.f (k : Nat) (l0 : List Int) : Option (List Int × Bool):=if (wrap64 ((l0.length : Int) - 4)) < 0 then (some ((([] : List Int)),false)) else (spec_GetSum.l0 k l0 (wrap64 ((l0.length : Int) - 4)) 0 (wrap64 ((l0.length : Int) - 4)))
theorem spec_GetSum.mono_l : ∀ k,(∀ y0 y1 y2 y3,LeO (spec_GetSum.l0 k y0 y1 y2 y3) (spec_GetSum.l0 (k + 1) y0 y1 y2 y3))
 | 0=>fun _ _ _ _ r h=>by simp [spec_GetSum.l0] at h
 | k + 1=>by
  have ih0:=spec_GetSum.mono_l k
  ·intro y0 y1 y2 y3
   unfold spec_GetSum.l0
   repeat' first
   | (with_reducible exact ih0 _ _ _ _)
   | (with_reducible exact spec_Crc.mono _ _)
   | (with_reducible exact LeO.refl _)
   | (with_reducible exact LeO.none _)
   | (with_reducible refine LeO.ite ?_ ?_)
   | (with_reducible refine LeO.bind ?_ (fun _=>?_))
   | exact ih0 _ _ _ _
   | exact spec_Crc.mono _ _
   | exact LeO.none _
   | refine LeO.ite ?_ ?_
   | refine LeO.bind ?_ (fun _=>?_)
theorem spec_GetSum.mono : ∀ a0 k,LeO (spec_GetSum.f k a0) (spec_GetSum.f (k + 1) a0):=by
 intro a0 k
 have ih0:=spec_GetSum.mono_l k
 unfold spec_GetSum.f
 repeat' first
   | (with_reducible exact ih0 _ _ _ _)
   | (with_reducible exact spec_Crc.mono _ _)
   | (with_reducible exact LeO.refl _)
   | (with_reducible exact LeO.none _)
   | (with_reducible refine LeO.ite ?_ ?_)
   | (with_reducible refine LeO.bind ?_ (fun _=>?_))
   | exact ih0 _ _ _ _
   | exact spec_Crc.mono _ _
   | exact LeO.none _
   | refine LeO.ite ?_ ?_
   | refine LeO.bind ?_ (fun _=>?_)
set_option maxHeartbeats 8000000 in
set_option maxRecDepth 100000 in
theorem spec_GetSum.calls (k : Nat) (A0 : Option Addr) (c0 : Nat) (l0 : List Int) (r1 : List Int) (r2 : Bool) (w : World) (hr0 : Kd.C (Kd.int .u8) w A0 l0.length l0) (hc0 : l0.length ≤ c0) (h : spec_GetSum.f k l0 = some (r1,r2)) :
  Calls Try.prog 116 #[.slice A0 l0.length c0] w fun e w'=>∃ v0_ : Value,e = .returned (.tuple #[v0_,.bool r2]) ∧ Kd.R (Kd.int .u8) 5 w' w.heap.size (fun _=>True) v0_ r1 ∧ Below w.heap.size w w':=by
 have HR0:=aM_ hr0
 have HC0:=aM_ hc0
 clear hr0 hc0
 have HB:=aM_ (Below.refl w.heap.size w)
 have H : (if (wrap64 ((l0.length : Int) - 4)) < 0 then (some ((([] : List Int)),false)) else (spec_GetSum.l0 k l0 (wrap64 ((l0.length : Int) - 4)) 0 (wrap64 ((l0.length : Int) - 4)))) = some (r1,r2):=h
 clear h
 by_cases c2 : (wrap64 ((l0.length : Int) - 4)) < 0
 ·rw [if_pos c2] at H
  have c2b0 : decide ((wrap64 ((l0.length : Int) - 4)) < 0) = true:=decide_eq_true c2
  clear c2
  obtain ⟨y270,hy270⟩ : ∃ y_ : List Int,y_ = (([] : List Int)):=⟨_,rfl⟩
  replace H : (some (y270,false)) = some (r1,r2):=by first | (rw [hy270];with_reducible exact H) | (have H2_:=(Option.bind_some _ _).symm.trans H;rw [hy270];with_reducible exact H2_) | (have H2_:=(Option.bind_some _ _).symm.trans H;with_reducible exact H2_) | with_reducible exact H | (rw [hy270];exact H) | exact H
  have Ny270:=aM_ hy270
  clear hy270
  simp only [Option.some.injEq,Prod.mk.injEq] at H
  obtain ⟨rfl,rfl⟩:=H
  go_enter Try.func116,Try.ntmps116
  go_wp2_with (first | ((with_reducible refine gate_dst (N:=12) rfl ?_);refine Kd.R_lit (Kd.int .u8) _ 5 ?hg (N:=12) ?hd (xs:=([] : List Int)) (inner:=[]) (ok:=fun _=>True) (okp:=fun _=>True) ?hr ?hp (fun _ hk=>hk) trivial (Below.refl _ _) (Nat.le_refl _) (by simp) ?_;(case hd=>rfl);(case hg=>rfl);(case hr=>first | (go_simp;done) | (go_simp;rfl));(case hp=>exact (Reps.none _ _));intro v271 w3 ho4 hb hg_ hnew_;clear hg_ hnew_;(first | rw [← Ny270.out] at ho4 | (simp only [Int.reduceToNat] at ho4;rw [← Ny270.out] at ho4));have n0_:=aM_ (Kd.R_lower ho4 (bS_ (by exact bZ_ HB)));have n1_:=aM_ (bT_ (by exact bZ_ HB) hb);clear HB;have HO272:=n0_;have HB:=n1_;clear n0_ n1_;clear hb ho4))
  go_ret2
  exact ⟨_,by first | rfl | (simp [errW_none,errW_some] <;> rfl) | (simp [*, errW_none,errW_some] <;> rfl),by exact rZ_ HO272,by exact bZ_ HB⟩
 ·rw [if_neg c2] at H
  have c2b0 : decide ((wrap64 ((l0.length : Int) - 4)) < 0) = false:=decide_eq_false c2
  clear c2
  have H':=aM_ H
  clear H
  go_enter Try.func116,Try.ntmps116
  go_wp2
  (try simp only [Act.put,sI_,sS_,sZ_])
  go_loopg [5,6] k (fun kq v5 v6 w'=>∃ (x5_1 : Int) (x6_1 : Int),v5 = .int .i64 x5_1 ∧ v6 = .int .i64 x6_1 ∧ Aside0 (spec_GetSum.l0 kq l0 (wrap64 ((l0.length : Int) - 4)) x5_1 x6_1 = some (r1,r2)) ∧ Aside0 (kq ≤ k) ∧ Aside0 (Below w.heap.size w w'))
  case atStart=>exact ⟨(0),(wrap64 ((l0.length : Int) - 4)),(by first | rfl | (simp;done) | (simp [*];done)),(by first | rfl | (simp;done) | (simp [*];done)),H', ⟨Nat.le_refl _⟩,⟨by exact bZ_ HB⟩⟩
  case round =>
   clear H'
   try clear c1
   try clear c2
   try clear c2b0
   try clear p2
   obtain ⟨x5_1,x6_1,rfl,rfl,HA,HK1,HB⟩:=hrel
   cases gk with
   | zero=>exact absurd HA.out (by simp [spec_GetSum.l0])
   | succ k1 =>
    have H:=HA.out
    clear HA
    simp only [spec_GetSum.l0] at H
    by_cases c5 : x6_1 < (l0.length : Int)
    ·rw [if_pos c5] at H
     have c5b0 : decide (x6_1 < (l0.length : Int)) = true:=decide_eq_true c5
     clear c5
     by_cases c6 : 0 ≤ x6_1
     ·rw [if_pos c6] at H
      have c6b0 : decide (0 ≤ x6_1) = true:=decide_eq_true c6
      clear c6
      have H':=aM_ H
      clear H
      have p273 : 0 ≤ (x6_1 : Int):=oT_ (by first | (with_reducible assumption) | assumption)
      have q273 : x6_1 < (l0.length : Int):=oT_ (by first | (with_reducible assumption) | assumption)
      obtain ⟨ad273,e273,hx273_0⟩:=Kd.at_int HR0.out x6_1 p273 q273
      cases e273
      replace hx273_0:=(HB.out.cell (wL_ w _ hx273_0)).trans hx273_0
      replace p273:=eq_true p273
      replace q273:=eq_true q273
      go_wp2
      go_roundg k1
      case measure=>have:=HK1.out;omega
      case rel=>exact ⟨(Go.bits .or .i64 (wrap64 (x5_1 * 256)) (wrap64 (rd l0 x6_1))),(wrap64 (x6_1 + 1)),(by first | rfl | (simp;done) | (simp [*];done)),(by first | rfl | (simp;done) | (simp [*];done)),H', ⟨by have:=HK1.out;omega⟩,⟨by exact bZ_ HB⟩⟩
     ·rw [if_neg c6] at H
      exact absurd H (by simp)
    ·rw [if_neg c5] at H
     have c5b0 : decide (x6_1 < (l0.length : Int)) = false:=decide_eq_false c5
     clear c5
     obtain ⟨ji7,hji7⟩ : ∃ j_ : Int,(wrap64 ((l0.length : Int) - 4)) = j_:=⟨_,rfl⟩
     replace H : (if 0 ≤ (ji7) then (if (ji7) ≤ (l0.length : Int) then ((spec_Crc.f k1 (l0.take ((ji7) : Int).toNat)).bind fun t278=>(if x5_1 = t278 then ((some (([] : List Int) : List Int)).bind fun y279=>((some (l0.take ((ji7) : Int).toNat : List Int)).bind fun y282=>(if y279.length + y282.length < 140737488355328 then (some ((y279 ++ y282),true)) else (none)))) else (some ((([] : List Int)),false)))) else (none)) else (none)) = some (r1,r2):=by first | (rw [hji7] at H;exact H) | (simp only [hji7] at H ⊢;exact H)
     (try rw [hji7] at c2b0)
     have hji7w : (IntKind.i64.wrap ((l0.length : Int) - 4)) = ji7:=(i64_w _).trans hji7
     by_cases c8 : 0 ≤ (ji7)
     ·rw [if_pos c8] at H
      have c8b0:=eq_true c8
      have c8b1 : decide (0 ≤ (ji7)) = true:=decide_eq_true c8
      clear c8
      by_cases c9 : (ji7) ≤ (l0.length : Int)
      ·rw [if_pos c9] at H
       have c9b0:=eq_true c9
       have c9b1 : decide ((ji7) ≤ (l0.length : Int)) = true:=decide_eq_true c9
       clear c9
       obtain ⟨y274,hy274⟩ : ∃ y_ : List Int,y_ = (l0.take ((ji7) : Int).toNat):=⟨_,rfl⟩
       replace H : ((spec_Crc.f k1 y274).bind fun t278=>(if x5_1 = t278 then ((some (([] : List Int) : List Int)).bind fun y279=>((some (l0.take ((ji7) : Int).toNat : List Int)).bind fun y282=>(if y279.length + y282.length < 140737488355328 then (some ((y279 ++ y282),true)) else (none)))) else (some ((([] : List Int)),false)))) = some (r1,r2):=by first | (rw [hy274];with_reducible exact H) | (have H2_:=(Option.bind_some _ _).symm.trans H;rw [hy274];with_reducible exact H2_) | (have H2_:=(Option.bind_some _ _).symm.trans H;with_reducible exact H2_) | with_reducible exact H | (rw [hy274];exact H) | exact H
       have Ny274:=aM_ hy274
       clear hy274
       replace H:=oB_ H
       obtain ⟨t278,A100,H⟩:=H
       replace H : (if x5_1 = t278 then ((some (([] : List Int) : List Int)).bind fun y279=>((some (l0.take ((ji7) : Int).toNat : List Int)).bind fun y282=>(if y279.length + y282.length < 140737488355328 then (some ((y279 ++ y282),true)) else (none)))) else (some ((([] : List Int)),false))) = some (r1,r2):=H
       have A10:=aM_ A100
       clear A100
       by_cases c11 : x5_1 = t278
       ·rw [if_pos c11] at H
        have c11b0 : (x5_1 == t278) = true:=beq_iff_eq.mpr c11
        have c11b1 : (x5_1 != t278) = false:=bne_eq_false_iff_eq.mpr c11
        clear c11
        obtain ⟨y279,hy279⟩ : ∃ y_ : List Int,y_ = (([] : List Int)):=⟨_,rfl⟩
        replace H : ((some (l0.take ((ji7) : Int).toNat : List Int)).bind fun y282=>(if y279.length + y282.length < 140737488355328 then (some ((y279 ++ y282),true)) else (none))) = some (r1,r2):=by first | (rw [hy279];with_reducible exact H) | (have H2_:=(Option.bind_some _ _).symm.trans H;rw [hy279];with_reducible exact H2_) | (have H2_:=(Option.bind_some _ _).symm.trans H;with_reducible exact H2_) | with_reducible exact H | (rw [hy279];exact H) | exact H
        have Ny279:=aM_ hy279
        clear hy279
        have c12b0:=eq_true (oT_ (by first | (with_reducible assumption) | assumption) : 0 ≤ (ji7))
        have c13b0:=eq_true (oT_ (by first | (with_reducible assumption) | assumption) : (ji7) ≤ (l0.length : Int))
        obtain ⟨y282,hy282⟩ : ∃ y_ : List Int,y_ = (l0.take ((ji7) : Int).toNat):=⟨_,rfl⟩
        replace H : (if y279.length + y282.length < 140737488355328 then (some ((y279 ++ y282),true)) else (none)) = some (r1,r2):=by first | (rw [hy282];with_reducible exact H) | (have H2_:=(Option.bind_some _ _).symm.trans H;rw [hy282];with_reducible exact H2_) | (have H2_:=(Option.bind_some _ _).symm.trans H;with_reducible exact H2_) | with_reducible exact H | (rw [hy282];exact H) | exact H
        have Ny282:=aM_ hy282
        clear hy282
        by_cases c14 : y279.length + y282.length < 140737488355328
        ·rw [if_pos c14] at H
         have LMc14:=aM_ c14
         clear c14
         obtain ⟨y286,hy286⟩ : ∃ y_ : List Int,y_ = (y279 ++ y282):=⟨_,rfl⟩
         replace H : (some (y286,true)) = some (r1,r2):=by first | (rw [hy286];with_reducible exact H) | (have H2_:=(Option.bind_some _ _).symm.trans H;rw [hy286];with_reducible exact H2_) | (have H2_:=(Option.bind_some _ _).symm.trans H;with_reducible exact H2_) | with_reducible exact H | (rw [hy286];exact H) | exact H
         have Ny286:=aM_ hy286
         clear hy286
         simp only [Option.some.injEq,Prod.mk.injEq] at H
         obtain ⟨rfl,rfl⟩:=H
         have q15 : ((ji7) : Int) ≤ ((l0.length : Int) : Int):=oT_ (by first | (with_reducible assumption) | assumption)
         obtain ⟨i015,hi015,_,hsz15,_⟩:=info_parts info5
         have hroom15 : l0.length ≤ c0:=HC0.out
         have hC15 : Kd.C (Kd.int .u8) _ A0 l0.length l0:=HR0.out
         have hcut15:=cut_to (P:=Try.prog) 27 5 .i64 Try.underlying27 hi015 A0 l0.length c0 (ji7) (oT_ (by first | (with_reducible assumption) | assumption)) q15 hroom15
         have hr15:=Kd.C_take (m:=((ji7) : Int).toNat) hC15 (by omega)
         have hy15 : y274.length = ((ji7) : Int).toNat:=(by rw [Ny274.out,lT_];omega)
         rw [← Ny274.out] at hr15
         rw [← hy15] at hcut15
         have HR277:=aM_ hr15
         have HC277:=aM_ (show y274.length ≤ c0 from by omega)
         clear hr15 hC15 hroom15 hi015 hsz15
         have KY15:=aM_ hy15
         clear hy15
         replace q15:=eq_true q15
         go_wp2_with (first | ((with_reducible refine gate_callee (f:=148) rfl ?_);refine goesL_ (some 32) rfl rfl Try.func148 (by kernel_rfl) rfl #[.slice A0 y274.length c0] rfl (by (try simp only [mA_,mC_,mN_]);first | done | rfl | (simp only [lD_,lT_];rfl)) ?_;(with_reducible refine (spec_Crc.calls k1 _ _ y274 t278 _ ?side1 ?side2 A10.out).mono ?_);(case side1=>repeat (first | exact (Kd.C_below HR277.out HB.out) | (with_reducible refine cA_ ?_ _) | (with_reducible refine cN_ ?_ _) | (with_reducible refine cD_ ?_)));(case side2=>exact HC277.out);rintro e w' ⟨rfl,⟨nd,rfl⟩⟩;refine ⟨_,rfl,?_⟩) | ((with_reducible refine gate_dst (N:=35) rfl ?_);refine Kd.R_lit (Kd.int .u8) _ 5 ?hg (N:=35) ?hd (xs:=([] : List Int)) (inner:=[]) (ok:=fun _=>True) (okp:=fun _=>True) ?hr ?hp (fun _ hk=>hk) trivial (Below.refl _ _) (Nat.le_refl _) (by simp) ?_;(case hd=>rfl);(case hg=>rfl);(case hr=>first | (go_simp;done) | (go_simp;rfl));(case hp=>exact (Reps.none _ _));intro v280 w16 ho17 hb hg_ hnew_;clear hg_ hnew_;(first | rw [← Ny279.out] at ho17 | (simp only [Int.reduceToNat] at ho17;rw [← Ny279.out] at ho17));have n0_:=aM_ (Kd.R_lower ho17 (bS_ (by exact bZ_ HB)));have n1_:=aM_ (bT_ (by exact bZ_ HB) hb);clear HB;have HO281:=n0_;have HB:=n1_;clear n0_ n1_;clear hb ho17;have q18 : ((ji7) : Int) ≤ ((l0.length : Int) : Int):=oT_ (by first | (with_reducible assumption) | assumption);obtain ⟨i018,hi018,_,hsz18,_⟩:=info_parts info5;have hroom18 : l0.length ≤ c0:=HC0.out;have hC18 : Kd.C (Kd.int .u8) _ A0 l0.length l0:=HR0.out;have hcut18:=cut_to (P:=Try.prog) 27 5 .i64 Try.underlying27 hi018 A0 l0.length c0 (ji7) (oT_ (by first | (with_reducible assumption) | assumption)) q18 hroom18;have hr18:=Kd.C_take (m:=((ji7) : Int).toNat) hC18 (by omega);have hy18 : y282.length = ((ji7) : Int).toNat:=(by rw [Ny282.out,lT_];omega);rw [← Ny282.out] at hr18;(try (have hE_:=Ny282.out.trans Ny274.out.symm;subst hE_));rw [← hy18] at hcut18;have HR285:=aM_ hr18;have HC285:=aM_ (show y282.length ≤ c0 from by omega);clear hr18 hC18 hroom18 hi018 hsz18;have KY18:=aM_ hy18;clear hy18;replace q18:=eq_true q18) | ((with_reducible refine gate_builtin (b:=.append) (xs:=#[.tmp 35,.tmp 38]) rfl ?_);at_builtin;refine Kd.R_append_rows (Kd.int .u8) (w0:=w) w.heap.size rfl (.tmp 35) (.tmp 38) 27 5 (.int .u8 0) 1 rfl Try.underlying27 info5 rfl (by decide) (by omega) v280 y279 y282 _ _ _ (fun _=>True) (fun _=>False) rfl rfl ?aO ?aR (fun _ _ h=>h) (fun _ h=>h.elim) ?aF ?aB ?aS ?aL ?_;(case aR=>repeat (first | exact (Kd.C_below HR285.out HB.out) | (with_reducible refine cA_ ?_ _) | (with_reducible refine cN_ ?_ _) | (with_reducible refine cD_ ?_)));(case aB=>exact (by exact bZ_ HB));(case aF=>exact (fun _ _=>trivial));(case aO=>exact (by exact rZ_ HO281));(case aS=>exact (bS_ (by exact bZ_ HB)));(case aL=>have:=LMc14.out;omega);intro v287 w19 ho hb hg hat;rw [← Ny286.out] at ho;have n0_:=aM_ (hb);have n1_:=aM_ (ho);clear HB;clear HO281;have HB:=n0_;have HO288:=n1_;clear n0_ n1_;clear ho hb hg hat))
         go_ret2
         exact ⟨_,by first | rfl | (simp [errW_none,errW_some] <;> rfl) | (simp only [← hji7];first | rfl | (simp [errW_none,errW_some] <;> rfl)) | (simp [*, errW_none,errW_some] <;> rfl),by exact rZ_ HO288,by exact bZ_ HB⟩
        ·rw [if_neg c14] at H
         exact absurd H (by simp)
       ·rw [if_neg c11] at H
        have c11b0 : (x5_1 == t278) = false:=beq_eq_false_iff_ne.mpr c11
        have c11b1 : (x5_1 != t278) = true:=bne_iff_ne.mpr c11
        obtain ⟨y289,hy289⟩ : ∃ y_ : List Int,y_ = (([] : List Int)):=⟨_,rfl⟩
        replace H : (some (y289,false)) = some (r1,r2):=by first | (rw [hy289];with_reducible exact H) | (have H2_:=(Option.bind_some _ _).symm.trans H;rw [hy289];with_reducible exact H2_) | (have H2_:=(Option.bind_some _ _).symm.trans H;with_reducible exact H2_) | with_reducible exact H | (rw [hy289];exact H) | exact H
        have Ny289:=aM_ hy289
        clear hy289
        simp only [Option.some.injEq,Prod.mk.injEq] at H
        obtain ⟨rfl,rfl⟩:=H
        have q20 : ((ji7) : Int) ≤ ((l0.length : Int) : Int):=oT_ (by first | (with_reducible assumption) | assumption)
        obtain ⟨i020,hi020,_,hsz20,_⟩:=info_parts info5
        have hroom20 : l0.length ≤ c0:=HC0.out
        have hC20 : Kd.C (Kd.int .u8) _ A0 l0.length l0:=HR0.out
        have hcut20:=cut_to (P:=Try.prog) 27 5 .i64 Try.underlying27 hi020 A0 l0.length c0 (ji7) (oT_ (by first | (with_reducible assumption) | assumption)) q20 hroom20
        have hr20:=Kd.C_take (m:=((ji7) : Int).toNat) hC20 (by omega)
        have hy20 : y274.length = ((ji7) : Int).toNat:=(by rw [Ny274.out,lT_];omega)
        rw [← Ny274.out] at hr20
        (try (have hE_:=Ny274.out.trans Ny282.out.symm;subst hE_))
        rw [← hy20] at hcut20
        have HR277:=aM_ hr20
        have HC277:=aM_ (show y274.length ≤ c0 from by omega)
        clear hr20 hC20 hroom20 hi020 hsz20
        have KY20:=aM_ hy20
        clear hy20
        replace q20:=eq_true q20
        go_wp2_with (first | ((with_reducible refine gate_callee (f:=148) rfl ?_);refine goesL_ (some 32) rfl rfl Try.func148 (by kernel_rfl) rfl #[.slice A0 y274.length c0] rfl (by (try simp only [mA_,mC_,mN_]);first | done | rfl | (simp only [lD_,lT_];rfl)) ?_;(with_reducible refine (spec_Crc.calls k1 _ _ y274 t278 _ ?side1 ?side2 A10.out).mono ?_);(case side1=>repeat (first | exact (Kd.C_below HR277.out HB.out) | (with_reducible refine cA_ ?_ _) | (with_reducible refine cN_ ?_ _) | (with_reducible refine cD_ ?_)));(case side2=>exact HC277.out);rintro e w' ⟨rfl,⟨nd,rfl⟩⟩;refine ⟨_,rfl,?_⟩) | ((with_reducible refine gate_dst (N:=34) rfl ?_);refine Kd.R_lit (Kd.int .u8) _ 5 ?hg (N:=34) ?hd (xs:=([] : List Int)) (inner:=[]) (ok:=fun _=>True) (okp:=fun _=>True) ?hr ?hp (fun _ hk=>hk) trivial (Below.refl _ _) (Nat.le_refl _) (by simp) ?_;(case hd=>rfl);(case hg=>rfl);(case hr=>first | (go_simp;done) | (go_simp;rfl));(case hp=>exact (Reps.none _ _));intro v290 w21 ho22 hb hg_ hnew_;clear hg_ hnew_;(first | rw [← Ny289.out] at ho22 | (simp only [Int.reduceToNat] at ho22;rw [← Ny289.out] at ho22));have n0_:=aM_ (Kd.R_lower ho22 (bS_ (by exact bZ_ HB)));have n1_:=aM_ (bT_ (by exact bZ_ HB) hb);clear HB;have HO291:=n0_;have HB:=n1_;clear n0_ n1_;clear hb ho22))
        go_ret2
        exact ⟨_,by first | rfl | (simp [errW_none,errW_some] <;> rfl) | (simp only [← hji7];first | rfl | (simp [errW_none,errW_some] <;> rfl)) | (simp [*, errW_none,errW_some] <;> rfl),by exact rZ_ HO291,by exact bZ_ HB⟩
      ·rw [if_neg c9] at H
       exact absurd H (by simp)
     ·rw [if_neg c8] at H
      exact absurd H (by simp)
end Go.Proofs.Ytllgmgpfdnofmaa.PFnRowsRead
