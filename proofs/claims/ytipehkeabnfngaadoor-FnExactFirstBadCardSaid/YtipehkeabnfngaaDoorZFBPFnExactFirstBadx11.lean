import Derived.Test.YtipehkeabnfngaaDoorZFBPFnExactFirstBadx0
import Derived.Test.YtipehkeabnfngaaDoorZFBPFnExactFirstBadx10
namespace Go.Proofs.YtipehkeabnfngaaDoor.PFnExactFirstBad
open Go.RowKit Go.Proofs.YtipehkeabnfngaaDoorW.PrintWords Go.Proofs.YtipehkeabnfngaaDoorW.PrintLast Go.Proofs.YtipehkeabnfngaaDoorW.PrintMore Go.Proofs.YtipehkeabnfngaaDoor.Xtra
attribute [local go_sem] max2_int min2_int max_two min_two max_three min_three max_four min_four str_leq str_gtr str_geq setCell_drewN cell_set2 cell_set3   -- for this text's walks alone
set_option linter.unusedVariables false
set_option linter.unusedSimpArgs false
mutual
def impl_FirstBad.l0 : Nat → List (S35) → List (S35) → Int → Int → Option (Int)
 | 0,_,_,_,_=>none
 | k + 1,x0,x7,x8,x9=>if x9 < x8 then (if 0 ≤ x9 then (if x9 < (x7.length : Int) then (if x9 ≥ 3 then (impl_FirstBad.j1 k x0 x9 x7 x8 x9 true ((rd_T35 x7 x9).f0) ((rd_T35 x7 x9).f1) ((rd_T35 x7 x9).f2) ((rd_T35 x7 x9).f3)) else ((impl_CheckDef.f k ((rd_T35 x7 x9).f0) ((rd_T35 x7 x9).f1) ((rd_T35 x7 x9).f2) ((rd_T35 x7 x9).f3)).bind fun t287=>(impl_FirstBad.j1 k x0 x9 x7 x8 x9 (t287 != 0) ((rd_T35 x7 x9).f0) ((rd_T35 x7 x9).f1) ((rd_T35 x7 x9).f2) ((rd_T35 x7 x9).f3)))) else (none)) else (none)) else (some (-1))
def impl_FirstBad.j1 : Nat → List (S35) → Int → List (S35) → Int → Int → Bool → ByteArray → List (S82) → List (S85) → List (S69) → Option (Int)
 | 0,_,_,_,_,_,_,_,_,_,_=>none
 | k + 1,x0,x3,x7,x8,x9,x20,x287000,x287001,x287002,x287003=>if x20 = true then (some x3) else (if 0 ≤ x3 then (if x3 ≤ (x0.length : Int) then ((some (x0.take (x3 : Int).toNat : List (S35))).bind fun y288=>(impl_FirstBad.l1 k x0 x3 x7 x8 x9 y288 (y288.length : Int) 0 x287000 x287001 x287002 x287003)) else (none)) else (none))
def impl_FirstBad.l1 : Nat → List (S35) → Int → List (S35) → Int → Int → List (S35) → Int → Int → ByteArray → List (S82) → List (S85) → List (S69) → Option (Int)
 | 0,_,_,_,_,_,_,_,_,_,_,_,_=>none
 | k + 1,x0,x3,x7,x8,x9,x24,x25,x26,x287000,x287001,x287002,x287003=>if x26 < x25 then (if 0 ≤ x26 then (if x26 < (x24.length : Int) then (if ((rd_T35 x24 x26).f0).toList = x287000.toList then (some x3) else (impl_FirstBad.l1 k x0 x3 x7 x8 x9 x24 x25 (wrap64 (x26 + 1)) x287000 x287001 x287002 x287003)) else (none)) else (none)) else (impl_FirstBad.l0 k x0 x7 x8 (wrap64 (x9 + 1)))
end
def impl_FirstBad.f (k : Nat) (l0 : List (S35)) : Option (Int):=impl_FirstBad.l0 k l0 l0 (l0.length : Int) 0
theorem impl_FirstBad.mono_l : ∀ k,(∀ y0 y1 y2 y3,LeO (impl_FirstBad.l0 k y0 y1 y2 y3) (impl_FirstBad.l0 (k + 1) y0 y1 y2 y3)) ∧ (∀ y0 y1 y2 y3 y4 y5 y6 y7 y8 y9,LeO (impl_FirstBad.j1 k y0 y1 y2 y3 y4 y5 y6 y7 y8 y9) (impl_FirstBad.j1 (k + 1) y0 y1 y2 y3 y4 y5 y6 y7 y8 y9)) ∧ (∀ y0 y1 y2 y3 y4 y5 y6 y7 y8 y9 y10 y11,LeO (impl_FirstBad.l1 k y0 y1 y2 y3 y4 y5 y6 y7 y8 y9 y10 y11) (impl_FirstBad.l1 (k + 1) y0 y1 y2 y3 y4 y5 y6 y7 y8 y9 y10 y11))
 | 0=>⟨fun _ _ _ _ r h=>by simp [impl_FirstBad.l0] at h,fun _ _ _ _ _ _ _ _ _ _ r h=>by simp [impl_FirstBad.j1] at h,fun _ _ _ _ _ _ _ _ _ _ _ _ r h=>by simp [impl_FirstBad.l1] at h⟩
 | k + 1=>by
  obtain ⟨ih0,ih1,ih2⟩:=impl_FirstBad.mono_l k
  refine ⟨?_,?_,?_⟩
  ·intro y0 y1 y2 y3
   unfold impl_FirstBad.l0
   repeat' first
   | (with_reducible exact ih0 _ _ _ _)
   | (with_reducible exact ih1 _ _ _ _ _ _ _ _ _ _)
   | (with_reducible exact ih2 _ _ _ _ _ _ _ _ _ _ _ _)
   | (with_reducible exact impl_CheckDef.mono _ _ _ _ _)
   | (with_reducible exact LeO.refl _)
   | (with_reducible exact LeO.none _)
   | (with_reducible refine LeO.ite ?_ ?_)
   | (with_reducible refine LeO.bind ?_ (fun _=>?_))
   | exact ih0 _ _ _ _
   | exact ih1 _ _ _ _ _ _ _ _ _ _
   | exact ih2 _ _ _ _ _ _ _ _ _ _ _ _
   | exact impl_CheckDef.mono _ _ _ _ _
   | exact LeO.none _
   | refine LeO.ite ?_ ?_
   | refine LeO.bind ?_ (fun _=>?_)
  ·intro y0 y1 y2 y3 y4 y5 y6 y7 y8 y9
   unfold impl_FirstBad.j1
   repeat' first
   | (with_reducible exact ih0 _ _ _ _)
   | (with_reducible exact ih1 _ _ _ _ _ _ _ _ _ _)
   | (with_reducible exact ih2 _ _ _ _ _ _ _ _ _ _ _ _)
   | (with_reducible exact impl_CheckDef.mono _ _ _ _ _)
   | (with_reducible exact LeO.refl _)
   | (with_reducible exact LeO.none _)
   | (with_reducible refine LeO.ite ?_ ?_)
   | (with_reducible refine LeO.bind ?_ (fun _=>?_))
   | exact ih0 _ _ _ _
   | exact ih1 _ _ _ _ _ _ _ _ _ _
   | exact ih2 _ _ _ _ _ _ _ _ _ _ _ _
   | exact impl_CheckDef.mono _ _ _ _ _
   | exact LeO.none _
   | refine LeO.ite ?_ ?_
   | refine LeO.bind ?_ (fun _=>?_)
  ·intro y0 y1 y2 y3 y4 y5 y6 y7 y8 y9 y10 y11
   unfold impl_FirstBad.l1
   repeat' first
   | (with_reducible exact ih0 _ _ _ _)
   | (with_reducible exact ih1 _ _ _ _ _ _ _ _ _ _)
   | (with_reducible exact ih2 _ _ _ _ _ _ _ _ _ _ _ _)
   | (with_reducible exact impl_CheckDef.mono _ _ _ _ _)
   | (with_reducible exact LeO.refl _)
   | (with_reducible exact LeO.none _)
   | (with_reducible refine LeO.ite ?_ ?_)
   | (with_reducible refine LeO.bind ?_ (fun _=>?_))
   | exact ih0 _ _ _ _
   | exact ih1 _ _ _ _ _ _ _ _ _ _
   | exact ih2 _ _ _ _ _ _ _ _ _ _ _ _
   | exact impl_CheckDef.mono _ _ _ _ _
   | exact LeO.none _
   | refine LeO.ite ?_ ?_
   | refine LeO.bind ?_ (fun _=>?_)
theorem impl_FirstBad.mono : ∀ a0 k,LeO (impl_FirstBad.f k a0) (impl_FirstBad.f (k + 1) a0):=by
 intro a0 k
 obtain ⟨ih0,ih1,ih2⟩:=impl_FirstBad.mono_l k
 unfold impl_FirstBad.f
 repeat' first
   | (with_reducible exact ih0 _ _ _ _)
   | (with_reducible exact ih1 _ _ _ _ _ _ _ _ _ _)
   | (with_reducible exact ih2 _ _ _ _ _ _ _ _ _ _ _ _)
   | (with_reducible exact impl_CheckDef.mono _ _ _ _ _)
   | (with_reducible exact LeO.refl _)
   | (with_reducible exact LeO.none _)
   | (with_reducible refine LeO.ite ?_ ?_)
   | (with_reducible refine LeO.bind ?_ (fun _=>?_))
   | exact ih0 _ _ _ _
   | exact ih1 _ _ _ _ _ _ _ _ _ _
   | exact ih2 _ _ _ _ _ _ _ _ _ _ _ _
   | exact impl_CheckDef.mono _ _ _ _ _
   | exact LeO.none _
   | refine LeO.ite ?_ ?_
   | refine LeO.bind ?_ (fun _=>?_)
set_option maxHeartbeats 8000000 in
set_option maxRecDepth 100000 in
theorem impl_FirstBad.calls (k : Nat) (A0 : Option Addr) (c0 : Nat) (l0 : List (S35)) (r : Int) (w : World) (hr0 : Kd.C k35 w A0 l0.length l0) (hc0 : l0.length ≤ c0) (h : impl_FirstBad.f k l0 = some r) :
  Calls Tryd.prog 17 #[.slice A0 l0.length c0] w fun e w'=>e = .returned (.int .i64 r) ∧ Below w.heap.size w w':=by
 have hu35:=Tryd.underlying35
 have HR0:=aM_ hr0
 have HC0:=aM_ hc0
 clear hr0 hc0
 have HB:=aM_ (Below.refl w.heap.size w)
 have H : (impl_FirstBad.l0 k l0 l0 (l0.length : Int) 0) = some r:=h
 clear h
 have H':=aM_ H
 clear H
 go_enter Tryd.func17,Tryd.ntmps17
 go_wp2
 (try simp only [Act.put,sI_,sS_,sZ_])
 go_loopg [9] k (fun kq v9 w'=>∃ (x9_1 : Int),v9 = .int .i64 x9_1 ∧ Aside0 (impl_FirstBad.l0 kq l0 l0 (l0.length : Int) x9_1 = some r) ∧ Aside0 (kq ≤ k) ∧ Aside0 (Below w.heap.size w w'))
 case atStart=>exact ⟨(0),(by first | rfl | (simp;done) | (simp [*];done)),H', ⟨Nat.le_refl _⟩,⟨by exact bZ_ HB⟩⟩
 case round =>
  clear H'
  try clear c1
  obtain ⟨x9_1,rfl,HA,HK1,HB⟩:=hrel
  cases gk with
  | zero=>exact absurd HA.out (by simp [impl_FirstBad.l0])
  | succ k1 =>
   have H:=HA.out
   clear HA
   simp only [impl_FirstBad.l0] at H
   by_cases c2 : x9_1 < (l0.length : Int)
   ·rw [if_pos c2] at H
    have c2b0 : decide (x9_1 < (l0.length : Int)) = true:=decide_eq_true c2
    clear c2
    by_cases c3 : 0 ≤ x9_1
    ·rw [if_pos c3] at H
     have c3b0 : decide (0 ≤ x9_1) = true:=decide_eq_true c3
     clear c3
     by_cases c4 : x9_1 < (l0.length : Int)
     ·rw [if_pos c4] at H
      have c4b0 : decide (x9_1 < (l0.length : Int)) = true:=decide_eq_true c4
      clear c4
      have HC5:=aM_ H
      clear H
      have p285 : 0 ≤ (x9_1 : Int):=oT_ (by first | (with_reducible assumption) | assumption)
      have q285 : x9_1 < (l0.length : Int):=oT_ (by first | (with_reducible assumption) | assumption)
      obtain ⟨ad285,A285_1,c285_1,A285_2,c285_2,A285_3,c285_3,e285,hx285_0,hx285_1,hx285_2,hx285_3,hl285_1,hi285_1,hl285_2,hi285_2,hl285_3,hi285_3⟩:=at_T35 HR0.out x9_1 p285 q285
      cases e285
      replace hx285_0:=(HB.out.cell (wL_ w _ hx285_0)).trans hx285_0
      replace hx285_1:=(HB.out.cell (wL_ w _ hx285_1)).trans hx285_1
      replace hx285_2:=(HB.out.cell (wL_ w _ hx285_2)).trans hx285_2
      replace hx285_3:=(HB.out.cell (wL_ w _ hx285_3)).trans hx285_3
      have HR285_1:=aM_ hi285_1
      have HC285_1:=aM_ hl285_1
      clear hi285_1 hl285_1
      have HR285_2:=aM_ hi285_2
      have HC285_2:=aM_ hl285_2
      clear hi285_2 hl285_2
      have HR285_3:=aM_ hi285_3
      have HC285_3:=aM_ hl285_3
      clear hi285_3 hl285_3
      replace p285:=eq_true p285
      replace q285:=eq_true q285
      go_upto_region 4 with (first | ((with_reducible refine gate_dst (N:=4) rfl ?_);refine box_event ?hg (N:=4) ?hd (cs:=#[.string (⟨#[]⟩ : ByteArray),.slice none 0 0,.slice none 0 0,.slice none 0 0]) (t:=35) ?hr ?_;(case hd=>rfl);(case hg=>rfl);(case hr=>first | (go_simp;done) | (go_simp;rfl));intro gb286 hg w6 hbox hb;have n0_:=aM_ (bT_ (by exact bZ_ HB) hb);have n1_:=aM_ (hbox);have n2_:=aM_ ((by rw [hg];exact (bS_ (by exact bZ_ HB)) : w.heap.size ≤ gb286));have n3_:=aM_ ((by rw [hg];exact (bS_ (by exact bZ_ HB)) : w.heap.size ≤ gb286));clear HB;have HB:=n0_;have BK286:=n1_;have GW286:=n2_;have GE286:=n3_;clear n0_ n1_ n2_ n3_;clear hb hbox hg;have hcz7_0 : w6.cell? ⟨gb286,0,none⟩ = some (.string (⟨#[]⟩ : ByteArray)):=(kC_ BK286.out 0).trans rfl;have hcz7_1 : w6.cell? ⟨gb286,1,none⟩ = some (.slice none 0 0):=(kC_ BK286.out 1).trans rfl;have hcz7_2 : w6.cell? ⟨gb286,2,none⟩ = some (.slice none 0 0):=(kC_ BK286.out 2).trans rfl;have hcz7_3 : w6.cell? ⟨gb286,3,none⟩ = some (.slice none 0 0):=(kC_ BK286.out 3).trans rfl;have hfz7_0:=kF_ BK286.out 0;have hfz7_1:=kF_ BK286.out 1;have hfz7_2:=kF_ BK286.out 2;have hfz7_3:=kF_ BK286.out 3))
      (try simp only [Act.put,sI_,sZ_,sS_])
      go_cut [20] (fun v20 wc=>∃ (kq : Nat) (x20_4 : Bool),v20 = .bool x20_4 ∧ Aside0 (impl_FirstBad.j1 kq l0 x9_1 l0 (l0.length : Int) x9_1 x20_4 ((rd_T35 l0 x9_1).f0) ((rd_T35 l0 x9_1).f1) ((rd_T35 l0 x9_1).f2) ((rd_T35 l0 x9_1).f3) = some r) ∧ Aside0 (kq ≤ k1) ∧ Aside0 (wc.heap[gb286]? = some (.cells #[.string ((rd_T35 l0 x9_1).f0),(.slice A285_1 ((rd_T35 l0 x9_1).f1).length c285_1),(.slice A285_2 ((rd_T35 l0 x9_1).f2).length c285_2),(.slice A285_3 ((rd_T35 l0 x9_1).f3).length c285_3)] 35 (0,0))) ∧ Aside0 (Below w.heap.size w wc))
      case first =>
       have H:=HC5.out
       clear HC5
       by_cases c8 : x9_1 ≥ 3
       ·rw [if_pos c8] at H
        have c8b0 : decide (3 ≤ x9_1) = true:=decide_eq_true c8
        clear c8
        (first | rw [c8b0] | (simp only [i64_w,i32_w];rw [c8b0]) | skip)
        have H':=aM_ H
        clear H
        go_wp2
        (first | go_meet | (refine Met.intro ?_;go_step;(repeat apply Exists.intro);refine ⟨?rel,?eq⟩;(case eq=>(try simp only [c4b0]);(try simp only [c8b0]);rfl)))
        case rel=>exact ⟨_,(true),(by first | rfl | (simp;done) | (simp [*];done)),H', ⟨by have:=HK1.out;first | omega | exact Nat.le_refl _⟩,⟨by (with_reducible repeat (first | refine kN_ ?_ _ | refine kD_ ?_ | refine kA_ ?_ _));refine kP_ (cs:=#[.string ((rd_T35 l0 x9_1).f0),.slice A285_1 ((rd_T35 l0 x9_1).f1).length c285_1,.slice A285_2 ((rd_T35 l0 x9_1).f2).length c285_2,.slice none 0 0]) ?_ 3 _ rfl;(with_reducible repeat (first | refine kN_ ?_ _ | refine kD_ ?_ | refine kA_ ?_ _));refine kP_ (cs:=#[.string ((rd_T35 l0 x9_1).f0),.slice A285_1 ((rd_T35 l0 x9_1).f1).length c285_1,.slice none 0 0,.slice none 0 0]) ?_ 2 _ rfl;(with_reducible repeat (first | refine kN_ ?_ _ | refine kD_ ?_ | refine kA_ ?_ _));refine kP_ (cs:=#[.string ((rd_T35 l0 x9_1).f0),.slice none 0 0,.slice none 0 0,.slice none 0 0]) ?_ 1 _ rfl;(with_reducible repeat (first | refine kN_ ?_ _ | refine kD_ ?_ | refine kA_ ?_ _));refine kP_ (cs:=#[.string (⟨#[]⟩ : ByteArray),.slice none 0 0,.slice none 0 0,.slice none 0 0]) ?_ 0 _ rfl;exact kZ_ BK286⟩,⟨by exact bZ_ HB⟩⟩
       ·rw [if_neg c8] at H
        have c8b0 : decide (3 ≤ x9_1) = false:=decide_eq_false c8
        clear c8
        (first | rw [c8b0] | (simp only [i64_w,i32_w];rw [c8b0]) | skip)
        replace H:=oB_ H
        obtain ⟨t287,A90,H⟩:=H
        replace H : (impl_FirstBad.j1 k1 l0 x9_1 l0 (l0.length : Int) x9_1 (t287 != 0) ((rd_T35 l0 x9_1).f0) ((rd_T35 l0 x9_1).f1) ((rd_T35 l0 x9_1).f2) ((rd_T35 l0 x9_1).f3)) = some r:=H
        have A9:=aM_ A90
        clear A90
        have H':=aM_ H
        clear H
        have hcz10_0 : w6.cell? ⟨gb286,0,none⟩ = some (.string (⟨#[]⟩ : ByteArray)):=(kC_ BK286.out 0).trans rfl
        have hcz10_1 : w6.cell? ⟨gb286,1,none⟩ = some (.slice none 0 0):=(kC_ BK286.out 1).trans rfl
        have hcz10_2 : w6.cell? ⟨gb286,2,none⟩ = some (.slice none 0 0):=(kC_ BK286.out 2).trans rfl
        have hcz10_3 : w6.cell? ⟨gb286,3,none⟩ = some (.slice none 0 0):=(kC_ BK286.out 3).trans rfl
        have hfz10_0:=kF_ BK286.out 0
        have hfz10_1:=kF_ BK286.out 1
        have hfz10_2:=kF_ BK286.out 2
        have hfz10_3:=kF_ BK286.out 3
        go_wp2_with (first | (go_at_call 21;(with_reducible refine (impl_CheckDef.calls k1 ((rd_T35 l0 x9_1).f0) _ _ ((rd_T35 l0 x9_1).f1) _ _ ((rd_T35 l0 x9_1).f2) _ _ ((rd_T35 l0 x9_1).f3) t287 _ ?side1 ?side2 ?side3 ?side4 ?side5 ?side6 A9.out).mono ?_);(case side1=>exact Kd.C_below HR285_1.out (by exact bZ_ HB));(case side2=>exact HC285_1.out);(case side3=>exact Kd.C_below HR285_2.out (by exact bZ_ HB));(case side4=>exact HC285_2.out);(case side5=>exact Kd.C_below HR285_3.out (by exact bZ_ HB));(case side6=>exact HC285_3.out);rintro e w11 ⟨rfl,hb⟩;have n0_:=aM_ (blk_below (g:=gb286) (o:=.cells #[.string ((rd_T35 l0 x9_1).f0),.slice A285_1 ((rd_T35 l0 x9_1).f1).length c285_1,.slice A285_2 ((rd_T35 l0 x9_1).f2).length c285_2,.slice A285_3 ((rd_T35 l0 x9_1).f3).length c285_3] 35 (0,0)) (by (with_reducible repeat (first | refine kN_ ?_ _ | refine kD_ ?_ | refine kA_ ?_ _));refine kP_ (cs:=#[.string ((rd_T35 l0 x9_1).f0),.slice A285_1 ((rd_T35 l0 x9_1).f1).length c285_1,.slice A285_2 ((rd_T35 l0 x9_1).f2).length c285_2,.slice none 0 0]) ?_ 3 _ rfl;(with_reducible repeat (first | refine kN_ ?_ _ | refine kD_ ?_ | refine kA_ ?_ _));refine kP_ (cs:=#[.string ((rd_T35 l0 x9_1).f0),.slice A285_1 ((rd_T35 l0 x9_1).f1).length c285_1,.slice none 0 0,.slice none 0 0]) ?_ 2 _ rfl;(with_reducible repeat (first | refine kN_ ?_ _ | refine kD_ ?_ | refine kA_ ?_ _));refine kP_ (cs:=#[.string ((rd_T35 l0 x9_1).f0),.slice none 0 0,.slice none 0 0,.slice none 0 0]) ?_ 1 _ rfl;(with_reducible repeat (first | refine kN_ ?_ _ | refine kD_ ?_ | refine kA_ ?_ _));refine kP_ (cs:=#[.string (⟨#[]⟩ : ByteArray),.slice none 0 0,.slice none 0 0,.slice none 0 0]) ?_ 0 _ rfl;exact kZ_ BK286) hb);have n1_:=aM_ (bT_ (by exact bZ_ HB) hb);clear BK286;clear HB;have BK286:=n0_;have HB:=n1_;clear n0_ n1_;(try clear hb);(try clear hb2);(try clear hk);(try clear hi)))
        (first | go_meet | (refine Met.intro ?_;go_step;(repeat apply Exists.intro);refine ⟨?rel,?eq⟩;(case eq=>(try simp only [c4b0]);(try simp only [c8b0]);(try simp only [c8b0]);rfl)))
        case rel=>exact ⟨_,((t287 != 0)),(by first | rfl | (simp;done) | (simp [*];done)),H', ⟨by have:=HK1.out;first | omega | exact Nat.le_refl _⟩,⟨by exact kZ_ BK286⟩,⟨by exact bZ_ HB⟩⟩
      case rest =>
       clear HC5
       try clear c1
       try clear c2
       try clear c2b0
       try clear p2
       try clear q2
       try clear hx2
       try clear c3
       try clear c3b0
       try clear c4
       try clear c4b0
       try clear c8
       try clear c8b0
       try clear hcz10_0
       try clear hcz10_1
       try clear hcz10_2
       try clear hcz10_3
       try clear hcz7_0
       try clear hcz7_1
       try clear hcz7_2
       try clear hcz7_3
       try clear hfz10_0
       try clear hfz10_1
       try clear hfz10_2
       try clear hfz10_3
       try clear hfz7_0
       try clear hfz7_1
       try clear hfz7_2
       try clear hfz7_3
       try clear hx285_0
       try clear hx285_1
       try clear hx285_2
       try clear hx285_3
       try clear p285
       try clear q285
       obtain ⟨kq,x20_4,rfl,HA,HJ4,BK286,HB⟩:=hcut
       cases kq with
       | zero=>exact absurd HA.out (by simp [impl_FirstBad.j1])
       | succ kj4 =>
        have H:=HA.out
        clear HA
        simp only [impl_FirstBad.j1] at H
        by_cases c12 : x20_4 = true
        ·subst c12
         have H1 : (some x9_1) = some r:=by rw [if_pos rfl] at H;exact H
         clear H
         have H:=H1
         clear H1
         obtain rfl:=Option.some.inj H
         go_wp2
         go_ret
         exact ⟨by first | rfl | (simp [errW_none,errW_some] <;> rfl) | (simp [*, errW_none,errW_some] <;> rfl),by exact bZ_ HB⟩
        ·replace c12:=Bool.eq_false_iff.mpr c12
         subst c12
         have H1 : (if 0 ≤ x9_1 then (if x9_1 ≤ (l0.length : Int) then ((some (l0.take (x9_1 : Int).toNat : List (S35))).bind fun y288=>(impl_FirstBad.l1 kj4 l0 x9_1 l0 (l0.length : Int) x9_1 y288 (y288.length : Int) 0 ((rd_T35 l0 x9_1).f0) ((rd_T35 l0 x9_1).f1) ((rd_T35 l0 x9_1).f2) ((rd_T35 l0 x9_1).f3))) else (none)) else (none)) = some r:=by rw [if_neg (show ¬ (false = true) by decide)] at H;exact H
         clear H
         have H:=H1
         clear H1
         by_cases c13 : 0 ≤ x9_1
         ·rw [if_pos c13] at H
          have c13b0:=eq_true c13
          have c13b1 : decide (0 ≤ x9_1) = true:=decide_eq_true c13
          clear c13
          by_cases c14 : x9_1 ≤ (l0.length : Int)
          ·rw [if_pos c14] at H
           have c14b0:=eq_true c14
           have c14b1 : decide (x9_1 ≤ (l0.length : Int)) = true:=decide_eq_true c14
           clear c14
           obtain ⟨y288,hy288⟩ : ∃ y_ : List (S35),y_ = (l0.take (x9_1 : Int).toNat):=⟨_,rfl⟩
           replace H : (impl_FirstBad.l1 kj4 l0 x9_1 l0 (l0.length : Int) x9_1 y288 (y288.length : Int) 0 ((rd_T35 l0 x9_1).f0) ((rd_T35 l0 x9_1).f1) ((rd_T35 l0 x9_1).f2) ((rd_T35 l0 x9_1).f3)) = some r:=by first | (rw [hy288];with_reducible exact H) | (have H2_:=(Option.bind_some _ _).symm.trans H;rw [hy288];with_reducible exact H2_) | (have H2_:=(Option.bind_some _ _).symm.trans H;with_reducible exact H2_) | with_reducible exact H | (rw [hy288];exact H) | exact H
           have Ny288:=aM_ hy288
           clear hy288
           have H':=aM_ H
           clear H
           have q15 : (x9_1 : Int) ≤ ((l0.length : Int) : Int):=oT_ (by first | (with_reducible assumption) | assumption)
           obtain ⟨i015,hi015,_,hsz15,_⟩:=info_parts info35
           have hroom15 : l0.length ≤ c0:=HC0.out
           have hC15 : Kd.C k35 _ (some ad285) l0.length l0:=HR0.out
           have hcut15:=cut_to (P:=Tryd.prog) 25 35 .i64 Tryd.underlying25 hi015 (some ad285) l0.length c0 x9_1 (oT_ (by first | (with_reducible assumption) | assumption)) q15 hroom15
           have hr15:=Kd.C_take (m:=(x9_1 : Int).toNat) hC15 (by omega)
           have hy15 : y288.length = (x9_1 : Int).toNat:=(by rw [Ny288.out,lT_];omega)
           rw [← Ny288.out] at hr15
           rw [← hy15] at hcut15
           have HR291:=aM_ hr15
           have HC291:=aM_ (show y288.length ≤ c0 from by omega)
           clear hr15 hC15 hroom15 hi015 hsz15
           have KY15:=aM_ hy15
           clear hy15
           replace q15:=eq_true q15
           go_wp2
           (try simp only [Act.put,sI_,sS_,sZ_])
           go_loopg [26] kj4 (fun kq v26 w'=>∃ (x26_3 : Int),v26 = .int .i64 x26_3 ∧ Aside0 (impl_FirstBad.l1 kq l0 x9_1 l0 (l0.length : Int) x9_1 y288 (y288.length : Int) x26_3 ((rd_T35 l0 x9_1).f0) ((rd_T35 l0 x9_1).f1) ((rd_T35 l0 x9_1).f2) ((rd_T35 l0 x9_1).f3) = some r) ∧ Aside0 (kq ≤ kj4) ∧ Aside0 (w'.heap[gb286]? = some (.cells #[.string ((rd_T35 l0 x9_1).f0),(.slice A285_1 ((rd_T35 l0 x9_1).f1).length c285_1),(.slice A285_2 ((rd_T35 l0 x9_1).f2).length c285_2),(.slice A285_3 ((rd_T35 l0 x9_1).f3).length c285_3)] 35 (0,0))) ∧ Aside0 (Below w.heap.size w w'))
           case atStart=>exact ⟨(0),(by first | rfl | (simp;done) | (simp [*];done)),H', ⟨Nat.le_refl _⟩,⟨by exact kZ_ BK286⟩,⟨by exact bZ_ HB⟩⟩
           case round =>
            clear H'
            try clear c1
            try clear q1
            try clear c2
            try clear c2b0
            try clear p2
            try clear q2
            try clear hx2
            try clear c3
            try clear c3b0
            try clear c4
            try clear c4b0
            try clear c8
            try clear c8b0
            try clear c12
            try clear c13
            try clear c13b0
            try clear c13b1
            try clear c14
            try clear c14b0
            try clear c14b1
            try clear q15
            try clear hcz10_0
            try clear hcz10_1
            try clear hcz10_2
            try clear hcz10_3
            try clear hcz7_0
            try clear hcz7_1
            try clear hcz7_2
            try clear hcz7_3
            try clear hfz10_0
            try clear hfz10_1
            try clear hfz10_2
            try clear hfz10_3
            try clear hfz7_0
            try clear hfz7_1
            try clear hfz7_2
            try clear hfz7_3
            try clear hx285_0
            try clear hx285_1
            try clear hx285_2
            try clear hx285_3
            try clear p2
            try clear p285
            try clear q15
            try clear q2
            try clear q285
            obtain ⟨x26_3,rfl,HA,HK3,BK286,HB⟩:=hrel
            cases gk with
            | zero=>exact absurd HA.out (by simp [impl_FirstBad.l1])
            | succ k3 =>
             have H:=HA.out
             clear HA
             simp only [impl_FirstBad.l1] at H
             by_cases c16 : x26_3 < (y288.length : Int)
             ·rw [if_pos c16] at H
              have c16b0 : decide (x26_3 < (y288.length : Int)) = true:=decide_eq_true c16
              clear c16
              by_cases c17 : 0 ≤ x26_3
              ·rw [if_pos c17] at H
               have c17b0 : decide (0 ≤ x26_3) = true:=decide_eq_true c17
               clear c17
               by_cases c18 : x26_3 < (y288.length : Int)
               ·rw [if_pos c18] at H
                have c18b0 : decide (x26_3 < (y288.length : Int)) = true:=decide_eq_true c18
                clear c18
                by_cases c19 : ((rd_T35 y288 x26_3).f0).toList = ((rd_T35 l0 x9_1).f0).toList
                ·rw [if_pos c19] at H
                 have c19b0 : (((rd_T35 y288 x26_3).f0).toList == ((rd_T35 l0 x9_1).f0).toList) = true:=beq_iff_eq.mpr c19
                 have c19b1 : (((rd_T35 y288 x26_3).f0).toList != ((rd_T35 l0 x9_1).f0).toList) = false:=bne_eq_false_iff_eq.mpr c19
                 clear c19
                 obtain rfl:=Option.some.inj H
                 have p292 : 0 ≤ (x26_3 : Int):=oT_ (by first | (with_reducible assumption) | assumption)
                 have q292 : x26_3 < (y288.length : Int):=oT_ (by first | (with_reducible assumption) | assumption)
                 obtain ⟨ad292,A292_1,c292_1,A292_2,c292_2,A292_3,c292_3,e292,hx292_0,hx292_1,hx292_2,hx292_3,hl292_1,hi292_1,hl292_2,hi292_2,hl292_3,hi292_3⟩:=at_T35 HR291.out x26_3 p292 q292
                 obtain rfl : ad285 = ad292:=(by injection e292)
                 replace hx292_0:=(HB.out.cell (wL_ w _ hx292_0)).trans hx292_0
                 replace hx292_1:=(HB.out.cell (wL_ w _ hx292_1)).trans hx292_1
                 replace hx292_2:=(HB.out.cell (wL_ w _ hx292_2)).trans hx292_2
                 replace hx292_3:=(HB.out.cell (wL_ w _ hx292_3)).trans hx292_3
                 have HR292_1:=aM_ hi292_1
                 have HC292_1:=aM_ hl292_1
                 clear hi292_1 hl292_1
                 have HR292_2:=aM_ hi292_2
                 have HC292_2:=aM_ hl292_2
                 clear hi292_2 hl292_2
                 have HR292_3:=aM_ hi292_3
                 have HC292_3:=aM_ hl292_3
                 clear hi292_3 hl292_3
                 replace p292:=eq_true p292
                 replace q292:=eq_true q292
                 go_wp2_with (first | ((with_reducible refine gate_dst (N:=6) rfl ?_);refine box_event ?hg (N:=6) ?hd (cs:=#[.string (⟨#[]⟩ : ByteArray),.slice none 0 0,.slice none 0 0,.slice none 0 0]) (t:=35) ?hr ?_;(case hd=>rfl);(case hg=>rfl);(case hr=>first | (go_simp;done) | (go_simp;rfl));intro gb293 hg w20 hbox hb;have n0_:=aM_ (blk_below (g:=gb286) (o:=.cells #[.string ((rd_T35 l0 x9_1).f0),.slice A285_1 ((rd_T35 l0 x9_1).f1).length c285_1,.slice A285_2 ((rd_T35 l0 x9_1).f2).length c285_2,.slice A285_3 ((rd_T35 l0 x9_1).f3).length c285_3] 35 (0,0)) (by exact kZ_ BK286) hb);have n1_:=aM_ (bT_ (by exact bZ_ HB) hb);have n2_:=aM_ (hbox);have n3_:=aM_ ((by rw [hg];exact (bS_ (by exact bZ_ HB)) : w.heap.size ≤ gb293));have n4_:=aM_ ((by rw [hg];exact (bS_ (by exact bZ_ HB)) : w.heap.size ≤ gb293));have n5_:=aM_ ((by rw [hg];exact Nat.ne_of_lt (blk_lt (g:=gb286) (o:=.cells #[.string ((rd_T35 l0 x9_1).f0),.slice A285_1 ((rd_T35 l0 x9_1).f1).length c285_1,.slice A285_2 ((rd_T35 l0 x9_1).f2).length c285_2,.slice A285_3 ((rd_T35 l0 x9_1).f3).length c285_3] 35 (0,0)) (by exact kZ_ BK286)) : gb286 ≠ gb293));have n6_:=aM_ ((by rw [hg];exact Nat.ne_of_gt (blk_lt (g:=gb286) (o:=.cells #[.string ((rd_T35 l0 x9_1).f0),.slice A285_1 ((rd_T35 l0 x9_1).f1).length c285_1,.slice A285_2 ((rd_T35 l0 x9_1).f2).length c285_2,.slice A285_3 ((rd_T35 l0 x9_1).f3).length c285_3] 35 (0,0)) (by exact kZ_ BK286)) : gb293 ≠ gb286));clear BK286;clear HB;have BK286:=n0_;have HB:=n1_;have BK293:=n2_;have GW293:=n3_;have GE293:=n4_;have NB286_293:=n5_;have NB293_286:=n6_;clear n0_ n1_ n2_ n3_ n4_ n5_ n6_;clear hb hbox hg;have hnb21:=NB293_286.out;have hnc21:=NB286_293.out;have hcz22_0 : w20.cell? ⟨gb293,0,none⟩ = some (.string (⟨#[]⟩ : ByteArray)):=(kC_ BK293.out 0).trans rfl;have hcz22_1 : w20.cell? ⟨gb293,1,none⟩ = some (.slice none 0 0):=(kC_ BK293.out 1).trans rfl;have hcz22_2 : w20.cell? ⟨gb293,2,none⟩ = some (.slice none 0 0):=(kC_ BK293.out 2).trans rfl;have hcz22_3 : w20.cell? ⟨gb293,3,none⟩ = some (.slice none 0 0):=(kC_ BK293.out 3).trans rfl;have hfz22_0:=kF_ BK293.out 0;have hfz22_1:=kF_ BK293.out 1;have hfz22_2:=kF_ BK293.out 2;have hfz22_3:=kF_ BK293.out 3;have hcz23_0 : w20.cell? ⟨gb286,0,none⟩ = some (.string ((rd_T35 l0 x9_1).f0)):=(kC_ BK286.out 0).trans rfl;have hcz23_1 : w20.cell? ⟨gb286,1,none⟩ = some (.slice A285_1 ((rd_T35 l0 x9_1).f1).length c285_1):=(kC_ BK286.out 1).trans rfl;have hcz23_2 : w20.cell? ⟨gb286,2,none⟩ = some (.slice A285_2 ((rd_T35 l0 x9_1).f2).length c285_2):=(kC_ BK286.out 2).trans rfl;have hcz23_3 : w20.cell? ⟨gb286,3,none⟩ = some (.slice A285_3 ((rd_T35 l0 x9_1).f3).length c285_3):=(kC_ BK286.out 3).trans rfl;have hfz23_0:=kF_ BK286.out 0;have hfz23_1:=kF_ BK286.out 1;have hfz23_2:=kF_ BK286.out 2;have hfz23_3:=kF_ BK286.out 3))
                 go_ret
                 exact ⟨by first | rfl | (simp [errW_none,errW_some] <;> rfl) | (simp [*, errW_none,errW_some] <;> rfl),by exact bZ_ HB⟩
                ·rw [if_neg c19] at H
                 have c19b0 : (((rd_T35 y288 x26_3).f0).toList == ((rd_T35 l0 x9_1).f0).toList) = false:=beq_eq_false_iff_ne.mpr c19
                 have c19b1 : (((rd_T35 y288 x26_3).f0).toList != ((rd_T35 l0 x9_1).f0).toList) = true:=bne_iff_ne.mpr c19
                 have H':=aM_ H
                 clear H
                 have p292 : 0 ≤ (x26_3 : Int):=oT_ (by first | (with_reducible assumption) | assumption)
                 have q292 : x26_3 < (y288.length : Int):=oT_ (by first | (with_reducible assumption) | assumption)
                 obtain ⟨ad292,A292_1,c292_1,A292_2,c292_2,A292_3,c292_3,e292,hx292_0,hx292_1,hx292_2,hx292_3,hl292_1,hi292_1,hl292_2,hi292_2,hl292_3,hi292_3⟩:=at_T35 HR291.out x26_3 p292 q292
                 obtain rfl : ad285 = ad292:=(by injection e292)
                 replace hx292_0:=(HB.out.cell (wL_ w _ hx292_0)).trans hx292_0
                 replace hx292_1:=(HB.out.cell (wL_ w _ hx292_1)).trans hx292_1
                 replace hx292_2:=(HB.out.cell (wL_ w _ hx292_2)).trans hx292_2
                 replace hx292_3:=(HB.out.cell (wL_ w _ hx292_3)).trans hx292_3
                 have HR292_1:=aM_ hi292_1
                 have HC292_1:=aM_ hl292_1
                 clear hi292_1 hl292_1
                 have HR292_2:=aM_ hi292_2
                 have HC292_2:=aM_ hl292_2
                 clear hi292_2 hl292_2
                 have HR292_3:=aM_ hi292_3
                 have HC292_3:=aM_ hl292_3
                 clear hi292_3 hl292_3
                 replace p292:=eq_true p292
                 replace q292:=eq_true q292
                 go_wp2_with (first | ((with_reducible refine gate_dst (N:=6) rfl ?_);refine box_event ?hg (N:=6) ?hd (cs:=#[.string (⟨#[]⟩ : ByteArray),.slice none 0 0,.slice none 0 0,.slice none 0 0]) (t:=35) ?hr ?_;(case hd=>rfl);(case hg=>rfl);(case hr=>first | (go_simp;done) | (go_simp;rfl));intro gb293 hg w24 hbox hb;have n0_:=aM_ (blk_below (g:=gb286) (o:=.cells #[.string ((rd_T35 l0 x9_1).f0),.slice A285_1 ((rd_T35 l0 x9_1).f1).length c285_1,.slice A285_2 ((rd_T35 l0 x9_1).f2).length c285_2,.slice A285_3 ((rd_T35 l0 x9_1).f3).length c285_3] 35 (0,0)) (by exact kZ_ BK286) hb);have n1_:=aM_ (bT_ (by exact bZ_ HB) hb);have n2_:=aM_ (hbox);have n3_:=aM_ ((by rw [hg];exact (bS_ (by exact bZ_ HB)) : w.heap.size ≤ gb293));have n4_:=aM_ ((by rw [hg];exact (bS_ (by exact bZ_ HB)) : w.heap.size ≤ gb293));have n5_:=aM_ ((by rw [hg];exact Nat.ne_of_lt (blk_lt (g:=gb286) (o:=.cells #[.string ((rd_T35 l0 x9_1).f0),.slice A285_1 ((rd_T35 l0 x9_1).f1).length c285_1,.slice A285_2 ((rd_T35 l0 x9_1).f2).length c285_2,.slice A285_3 ((rd_T35 l0 x9_1).f3).length c285_3] 35 (0,0)) (by exact kZ_ BK286)) : gb286 ≠ gb293));have n6_:=aM_ ((by rw [hg];exact Nat.ne_of_gt (blk_lt (g:=gb286) (o:=.cells #[.string ((rd_T35 l0 x9_1).f0),.slice A285_1 ((rd_T35 l0 x9_1).f1).length c285_1,.slice A285_2 ((rd_T35 l0 x9_1).f2).length c285_2,.slice A285_3 ((rd_T35 l0 x9_1).f3).length c285_3] 35 (0,0)) (by exact kZ_ BK286)) : gb293 ≠ gb286));clear BK286;clear HB;have BK286:=n0_;have HB:=n1_;have BK293:=n2_;have GW293:=n3_;have GE293:=n4_;have NB286_293:=n5_;have NB293_286:=n6_;clear n0_ n1_ n2_ n3_ n4_ n5_ n6_;clear hb hbox hg;have hnb25:=NB293_286.out;have hnc25:=NB286_293.out;have hcz26_0 : w24.cell? ⟨gb293,0,none⟩ = some (.string (⟨#[]⟩ : ByteArray)):=(kC_ BK293.out 0).trans rfl;have hcz26_1 : w24.cell? ⟨gb293,1,none⟩ = some (.slice none 0 0):=(kC_ BK293.out 1).trans rfl;have hcz26_2 : w24.cell? ⟨gb293,2,none⟩ = some (.slice none 0 0):=(kC_ BK293.out 2).trans rfl;have hcz26_3 : w24.cell? ⟨gb293,3,none⟩ = some (.slice none 0 0):=(kC_ BK293.out 3).trans rfl;have hfz26_0:=kF_ BK293.out 0;have hfz26_1:=kF_ BK293.out 1;have hfz26_2:=kF_ BK293.out 2;have hfz26_3:=kF_ BK293.out 3;have hcz27_0 : w24.cell? ⟨gb286,0,none⟩ = some (.string ((rd_T35 l0 x9_1).f0)):=(kC_ BK286.out 0).trans rfl;have hcz27_1 : w24.cell? ⟨gb286,1,none⟩ = some (.slice A285_1 ((rd_T35 l0 x9_1).f1).length c285_1):=(kC_ BK286.out 1).trans rfl;have hcz27_2 : w24.cell? ⟨gb286,2,none⟩ = some (.slice A285_2 ((rd_T35 l0 x9_1).f2).length c285_2):=(kC_ BK286.out 2).trans rfl;have hcz27_3 : w24.cell? ⟨gb286,3,none⟩ = some (.slice A285_3 ((rd_T35 l0 x9_1).f3).length c285_3):=(kC_ BK286.out 3).trans rfl;have hfz27_0:=kF_ BK286.out 0;have hfz27_1:=kF_ BK286.out 1;have hfz27_2:=kF_ BK286.out 2;have hfz27_3:=kF_ BK286.out 3))
                 go_roundg k3
                 case measure=>have:=HK1.out;have:=HJ4.out;have:=HK3.out;omega
                 case rel=>exact ⟨(wrap64 (x26_3 + 1)),(by first | rfl | (simp;done) | (simp [*];done)),H', ⟨by have:=HK1.out;have:=HJ4.out;have:=HK3.out;omega⟩,⟨by exact kW_ BK286⟩,⟨by exact bZ_ HB⟩⟩
               ·rw [if_neg c18] at H
                exact absurd H (by simp)
              ·rw [if_neg c17] at H
               exact absurd H (by simp)
             ·rw [if_neg c16] at H
              have c16b0 : decide (x26_3 < (y288.length : Int)) = false:=decide_eq_false c16
              clear c16
              have H':=aM_ H
              clear H
              go_wp2
              go_roundg k3
              case measure=>have:=HK1.out;have:=HJ4.out;have:=HK3.out;omega
              case rel=>exact ⟨(wrap64 (x9_1 + 1)),(by first | rfl | (simp;done) | (simp [*];done)),H', ⟨by have:=HK1.out;have:=HJ4.out;have:=HK3.out;omega⟩,⟨by exact bZ_ HB⟩⟩
          ·rw [if_neg c14] at H
           exact absurd H (by simp)
         ·rw [if_neg c13] at H
          exact absurd H (by simp)
     ·rw [if_neg c4] at H
      exact absurd H (by simp)
    ·rw [if_neg c3] at H
     exact absurd H (by simp)
   ·rw [if_neg c2] at H
    have c2b0 : decide (x9_1 < (l0.length : Int)) = false:=decide_eq_false c2
    clear c2
    obtain rfl:=Option.some.inj H
    go_wp2
    go_ret
    exact ⟨by first | rfl | (simp [errW_none,errW_some] <;> rfl) | (simp [*, errW_none,errW_some] <;> rfl),by exact bZ_ HB⟩
def laws_eqCol.f (a0_0 : ByteArray) (a0_1 : Int) (a0_2 : Bool) (a1_0 : ByteArray) (a1_1 : Int) (a1_2 : Bool) : Option (Bool):=if a0_0.toList = a1_0.toList then (if a0_1 = a1_1 then (if (a0_2 != a1_2) = true then (some false) else (some true)) else (some false)) else (some false)
set_option maxHeartbeats 8000000 in
set_option maxRecDepth 100000 in
theorem laws_eqCol.calls (a0_0 : ByteArray) (a0_1 : Int) (a0_2 : Bool) (a1_0 : ByteArray) (a1_1 : Int) (a1_2 : Bool) (r : Bool) (w : World) (h : laws_eqCol.f a0_0 a0_1 a0_2 a1_0 a1_1 a1_2 = some r) :
  Calls Tryd.prog 117 #[.agg #[.string a0_0,.int .i64 a0_1,.bool a0_2],.agg #[.string a1_0,.int .i64 a1_1,.bool a1_2]] w fun e w'=>e = .returned (.bool r) ∧ Below w.heap.size w w':=by
 have hu82:=Tryd.underlying82
 have HB:=aM_ (Below.refl w.heap.size w)
 have H : (if a0_0.toList = a1_0.toList then (if a0_1 = a1_1 then (if (a0_2 != a1_2) = true then (some false) else (some true)) else (some false)) else (some false)) = some r:=h
 clear h
 by_cases c3 : a0_0.toList = a1_0.toList
 ·rw [if_pos c3] at H
  have c3b0 : (a0_0.toList == a1_0.toList) = true:=beq_iff_eq.mpr c3
  have c3b1 : (a0_0.toList != a1_0.toList) = false:=bne_eq_false_iff_eq.mpr c3
  clear c3
  by_cases c4 : a0_1 = a1_1
  ·rw [if_pos c4] at H
   have c4b0 : (a0_1 == a1_1) = true:=beq_iff_eq.mpr c4
   have c4b1 : (a0_1 != a1_1) = false:=bne_eq_false_iff_eq.mpr c4
   clear c4
   by_cases c5 : (a0_2 != a1_2) = true
   ·rw [if_pos c5] at H
    have c5b0 : (a0_2 != a1_2) = true:=c5
    (try (have c5b1 : decide (a0_2 = a1_2) = false:=by simpa using c5))
    (try (have c5b2 : (a0_2 == a1_2) = false:=by simpa using c5))
    (try (have c5b3 : ¬ (a0_2 = a1_2):=by simpa using c5))
    clear c5
    obtain rfl:=Option.some.inj H
    go_enter Tryd.func117,Tryd.ntmps117
    go_wp2_with (first | ((with_reducible refine gate_dst (N:=2) rfl ?_);refine box_event ?hg (N:=2) ?hd (cs:=#[.string a0_0,.int .i64 a0_1,.bool a0_2]) (t:=82) ?hr ?_;(case hd=>rfl);(case hg=>rfl);(case hr=>first | (go_simp;done) | (go_simp;rfl));intro gb294 hg w6 hbox hb;have n0_:=aM_ (bT_ (by exact bZ_ HB) hb);have n1_:=aM_ (hbox);have n2_:=aM_ ((by rw [hg];exact (bS_ (by exact bZ_ HB)) : w.heap.size ≤ gb294));have n3_:=aM_ ((by rw [hg];exact (bS_ (by exact bZ_ HB)) : w.heap.size ≤ gb294));clear HB;have HB:=n0_;have BK294:=n1_;have GW294:=n2_;have GE294:=n3_;clear n0_ n1_ n2_ n3_;clear hb hbox hg) | ((with_reducible refine gate_dst (N:=3) rfl ?_);refine box_event ?hg (N:=3) ?hd (cs:=#[.string a1_0,.int .i64 a1_1,.bool a1_2]) (t:=82) ?hr ?_;(case hd=>rfl);(case hg=>rfl);(case hr=>first | (go_simp;done) | (go_simp;rfl));intro gb295 hg w7 hbox hb;have n0_:=aM_ (blk_below (g:=gb294) (o:=.cells #[.string a0_0,.int .i64 a0_1,.bool a0_2] 82 (0,0)) (by exact kZ_ BK294) hb);have n1_:=aM_ (bT_ (by exact bZ_ HB) hb);have n2_:=aM_ (hbox);have n3_:=aM_ ((by rw [hg];exact (bS_ (by exact bZ_ HB)) : w.heap.size ≤ gb295));have n4_:=aM_ ((by rw [hg];exact (bS_ (by exact bZ_ HB)) : w.heap.size ≤ gb295));have n5_:=aM_ ((by rw [hg];exact Nat.ne_of_lt (blk_lt (g:=gb294) (o:=.cells #[.string a0_0,.int .i64 a0_1,.bool a0_2] 82 (0,0)) (by exact kZ_ BK294)) : gb294 ≠ gb295));have n6_:=aM_ ((by rw [hg];exact Nat.ne_of_gt (blk_lt (g:=gb294) (o:=.cells #[.string a0_0,.int .i64 a0_1,.bool a0_2] 82 (0,0)) (by exact kZ_ BK294)) : gb295 ≠ gb294));clear BK294;clear HB;have BK294:=n0_;have HB:=n1_;have BK295:=n2_;have GW295:=n3_;have GE295:=n4_;have NB294_295:=n5_;have NB295_294:=n6_;clear n0_ n1_ n2_ n3_ n4_ n5_ n6_;clear hb hbox hg;have hnb8:=NB294_295.out;have hnc8:=NB295_294.out;have hcz9_0 : w7.cell? ⟨gb294,0,none⟩ = some (.string a0_0):=(kC_ BK294.out 0).trans rfl;have hcz9_1 : w7.cell? ⟨gb294,1,none⟩ = some (.int .i64 a0_1):=(kC_ BK294.out 1).trans rfl;have hcz9_2 : w7.cell? ⟨gb294,2,none⟩ = some (.bool a0_2):=(kC_ BK294.out 2).trans rfl;have hfz9_0:=kF_ BK294.out 0;have hfz9_1:=kF_ BK294.out 1;have hfz9_2:=kF_ BK294.out 2;have hcz10_0 : w7.cell? ⟨gb295,0,none⟩ = some (.string a1_0):=(kC_ BK295.out 0).trans rfl;have hcz10_1 : w7.cell? ⟨gb295,1,none⟩ = some (.int .i64 a1_1):=(kC_ BK295.out 1).trans rfl;have hcz10_2 : w7.cell? ⟨gb295,2,none⟩ = some (.bool a1_2):=(kC_ BK295.out 2).trans rfl;have hfz10_0:=kF_ BK295.out 0;have hfz10_1:=kF_ BK295.out 1;have hfz10_2:=kF_ BK295.out 2))
    go_ret
    exact ⟨by first | rfl | (simp [errW_none,errW_some] <;> rfl) | (simp [*, errW_none,errW_some] <;> rfl),by exact bZ_ HB⟩
   ·rw [if_neg c5] at H
    have c5b0 : (a0_2 != a1_2) = false:=by simpa using c5
    (try (have c5b1 : decide (a0_2 = a1_2) = true:=by simpa using c5))
    (try (have c5b2 : (a0_2 == a1_2) = true:=by simpa using c5))
    clear c5
    obtain rfl:=Option.some.inj H
    go_enter Tryd.func117,Tryd.ntmps117
    go_wp2_with (first | ((with_reducible refine gate_dst (N:=2) rfl ?_);refine box_event ?hg (N:=2) ?hd (cs:=#[.string a0_0,.int .i64 a0_1,.bool a0_2]) (t:=82) ?hr ?_;(case hd=>rfl);(case hg=>rfl);(case hr=>first | (go_simp;done) | (go_simp;rfl));intro gb294 hg w11 hbox hb;have n0_:=aM_ (bT_ (by exact bZ_ HB) hb);have n1_:=aM_ (hbox);have n2_:=aM_ ((by rw [hg];exact (bS_ (by exact bZ_ HB)) : w.heap.size ≤ gb294));have n3_:=aM_ ((by rw [hg];exact (bS_ (by exact bZ_ HB)) : w.heap.size ≤ gb294));clear HB;have HB:=n0_;have BK294:=n1_;have GW294:=n2_;have GE294:=n3_;clear n0_ n1_ n2_ n3_;clear hb hbox hg) | ((with_reducible refine gate_dst (N:=3) rfl ?_);refine box_event ?hg (N:=3) ?hd (cs:=#[.string a1_0,.int .i64 a1_1,.bool a1_2]) (t:=82) ?hr ?_;(case hd=>rfl);(case hg=>rfl);(case hr=>first | (go_simp;done) | (go_simp;rfl));intro gb295 hg w12 hbox hb;have n0_:=aM_ (blk_below (g:=gb294) (o:=.cells #[.string a0_0,.int .i64 a0_1,.bool a0_2] 82 (0,0)) (by exact kZ_ BK294) hb);have n1_:=aM_ (bT_ (by exact bZ_ HB) hb);have n2_:=aM_ (hbox);have n3_:=aM_ ((by rw [hg];exact (bS_ (by exact bZ_ HB)) : w.heap.size ≤ gb295));have n4_:=aM_ ((by rw [hg];exact (bS_ (by exact bZ_ HB)) : w.heap.size ≤ gb295));have n5_:=aM_ ((by rw [hg];exact Nat.ne_of_lt (blk_lt (g:=gb294) (o:=.cells #[.string a0_0,.int .i64 a0_1,.bool a0_2] 82 (0,0)) (by exact kZ_ BK294)) : gb294 ≠ gb295));have n6_:=aM_ ((by rw [hg];exact Nat.ne_of_gt (blk_lt (g:=gb294) (o:=.cells #[.string a0_0,.int .i64 a0_1,.bool a0_2] 82 (0,0)) (by exact kZ_ BK294)) : gb295 ≠ gb294));clear BK294;clear HB;have BK294:=n0_;have HB:=n1_;have BK295:=n2_;have GW295:=n3_;have GE295:=n4_;have NB294_295:=n5_;have NB295_294:=n6_;clear n0_ n1_ n2_ n3_ n4_ n5_ n6_;clear hb hbox hg;have hnb13:=NB294_295.out;have hnc13:=NB295_294.out;have hcz14_0 : w12.cell? ⟨gb294,0,none⟩ = some (.string a0_0):=(kC_ BK294.out 0).trans rfl;have hcz14_1 : w12.cell? ⟨gb294,1,none⟩ = some (.int .i64 a0_1):=(kC_ BK294.out 1).trans rfl;have hcz14_2 : w12.cell? ⟨gb294,2,none⟩ = some (.bool a0_2):=(kC_ BK294.out 2).trans rfl;have hfz14_0:=kF_ BK294.out 0;have hfz14_1:=kF_ BK294.out 1;have hfz14_2:=kF_ BK294.out 2;have hcz15_0 : w12.cell? ⟨gb295,0,none⟩ = some (.string a1_0):=(kC_ BK295.out 0).trans rfl;have hcz15_1 : w12.cell? ⟨gb295,1,none⟩ = some (.int .i64 a1_1):=(kC_ BK295.out 1).trans rfl;have hcz15_2 : w12.cell? ⟨gb295,2,none⟩ = some (.bool a1_2):=(kC_ BK295.out 2).trans rfl;have hfz15_0:=kF_ BK295.out 0;have hfz15_1:=kF_ BK295.out 1;have hfz15_2:=kF_ BK295.out 2))
    go_ret
    exact ⟨by first | rfl | (simp [errW_none,errW_some] <;> rfl) | (simp [*, errW_none,errW_some] <;> rfl),by exact bZ_ HB⟩
  ·rw [if_neg c4] at H
   have c4b0 : (a0_1 == a1_1) = false:=beq_eq_false_iff_ne.mpr c4
   have c4b1 : (a0_1 != a1_1) = true:=bne_iff_ne.mpr c4
   obtain rfl:=Option.some.inj H
   go_enter Tryd.func117,Tryd.ntmps117
   go_wp2_with (first | ((with_reducible refine gate_dst (N:=2) rfl ?_);refine box_event ?hg (N:=2) ?hd (cs:=#[.string a0_0,.int .i64 a0_1,.bool a0_2]) (t:=82) ?hr ?_;(case hd=>rfl);(case hg=>rfl);(case hr=>first | (go_simp;done) | (go_simp;rfl));intro gb294 hg w16 hbox hb;have n0_:=aM_ (bT_ (by exact bZ_ HB) hb);have n1_:=aM_ (hbox);have n2_:=aM_ ((by rw [hg];exact (bS_ (by exact bZ_ HB)) : w.heap.size ≤ gb294));have n3_:=aM_ ((by rw [hg];exact (bS_ (by exact bZ_ HB)) : w.heap.size ≤ gb294));clear HB;have HB:=n0_;have BK294:=n1_;have GW294:=n2_;have GE294:=n3_;clear n0_ n1_ n2_ n3_;clear hb hbox hg) | ((with_reducible refine gate_dst (N:=3) rfl ?_);refine box_event ?hg (N:=3) ?hd (cs:=#[.string a1_0,.int .i64 a1_1,.bool a1_2]) (t:=82) ?hr ?_;(case hd=>rfl);(case hg=>rfl);(case hr=>first | (go_simp;done) | (go_simp;rfl));intro gb295 hg w17 hbox hb;have n0_:=aM_ (blk_below (g:=gb294) (o:=.cells #[.string a0_0,.int .i64 a0_1,.bool a0_2] 82 (0,0)) (by exact kZ_ BK294) hb);have n1_:=aM_ (bT_ (by exact bZ_ HB) hb);have n2_:=aM_ (hbox);have n3_:=aM_ ((by rw [hg];exact (bS_ (by exact bZ_ HB)) : w.heap.size ≤ gb295));have n4_:=aM_ ((by rw [hg];exact (bS_ (by exact bZ_ HB)) : w.heap.size ≤ gb295));have n5_:=aM_ ((by rw [hg];exact Nat.ne_of_lt (blk_lt (g:=gb294) (o:=.cells #[.string a0_0,.int .i64 a0_1,.bool a0_2] 82 (0,0)) (by exact kZ_ BK294)) : gb294 ≠ gb295));have n6_:=aM_ ((by rw [hg];exact Nat.ne_of_gt (blk_lt (g:=gb294) (o:=.cells #[.string a0_0,.int .i64 a0_1,.bool a0_2] 82 (0,0)) (by exact kZ_ BK294)) : gb295 ≠ gb294));clear BK294;clear HB;have BK294:=n0_;have HB:=n1_;have BK295:=n2_;have GW295:=n3_;have GE295:=n4_;have NB294_295:=n5_;have NB295_294:=n6_;clear n0_ n1_ n2_ n3_ n4_ n5_ n6_;clear hb hbox hg;have hnb18:=NB294_295.out;have hnc18:=NB295_294.out;have hcz19_0 : w17.cell? ⟨gb294,0,none⟩ = some (.string a0_0):=(kC_ BK294.out 0).trans rfl;have hcz19_1 : w17.cell? ⟨gb294,1,none⟩ = some (.int .i64 a0_1):=(kC_ BK294.out 1).trans rfl;have hcz19_2 : w17.cell? ⟨gb294,2,none⟩ = some (.bool a0_2):=(kC_ BK294.out 2).trans rfl;have hfz19_0:=kF_ BK294.out 0;have hfz19_1:=kF_ BK294.out 1;have hfz19_2:=kF_ BK294.out 2;have hcz20_0 : w17.cell? ⟨gb295,0,none⟩ = some (.string a1_0):=(kC_ BK295.out 0).trans rfl;have hcz20_1 : w17.cell? ⟨gb295,1,none⟩ = some (.int .i64 a1_1):=(kC_ BK295.out 1).trans rfl;have hcz20_2 : w17.cell? ⟨gb295,2,none⟩ = some (.bool a1_2):=(kC_ BK295.out 2).trans rfl;have hfz20_0:=kF_ BK295.out 0;have hfz20_1:=kF_ BK295.out 1;have hfz20_2:=kF_ BK295.out 2))
   go_ret
   exact ⟨by first | rfl | (simp [errW_none,errW_some] <;> rfl) | (simp [*, errW_none,errW_some] <;> rfl),by exact bZ_ HB⟩
 ·rw [if_neg c3] at H
  have c3b0 : (a0_0.toList == a1_0.toList) = false:=beq_eq_false_iff_ne.mpr c3
  have c3b1 : (a0_0.toList != a1_0.toList) = true:=bne_iff_ne.mpr c3
  obtain rfl:=Option.some.inj H
  go_enter Tryd.func117,Tryd.ntmps117
  go_wp2_with (first | ((with_reducible refine gate_dst (N:=2) rfl ?_);refine box_event ?hg (N:=2) ?hd (cs:=#[.string a0_0,.int .i64 a0_1,.bool a0_2]) (t:=82) ?hr ?_;(case hd=>rfl);(case hg=>rfl);(case hr=>first | (go_simp;done) | (go_simp;rfl));intro gb294 hg w21 hbox hb;have n0_:=aM_ (bT_ (by exact bZ_ HB) hb);have n1_:=aM_ (hbox);have n2_:=aM_ ((by rw [hg];exact (bS_ (by exact bZ_ HB)) : w.heap.size ≤ gb294));have n3_:=aM_ ((by rw [hg];exact (bS_ (by exact bZ_ HB)) : w.heap.size ≤ gb294));clear HB;have HB:=n0_;have BK294:=n1_;have GW294:=n2_;have GE294:=n3_;clear n0_ n1_ n2_ n3_;clear hb hbox hg) | ((with_reducible refine gate_dst (N:=3) rfl ?_);refine box_event ?hg (N:=3) ?hd (cs:=#[.string a1_0,.int .i64 a1_1,.bool a1_2]) (t:=82) ?hr ?_;(case hd=>rfl);(case hg=>rfl);(case hr=>first | (go_simp;done) | (go_simp;rfl));intro gb295 hg w22 hbox hb;have n0_:=aM_ (blk_below (g:=gb294) (o:=.cells #[.string a0_0,.int .i64 a0_1,.bool a0_2] 82 (0,0)) (by exact kZ_ BK294) hb);have n1_:=aM_ (bT_ (by exact bZ_ HB) hb);have n2_:=aM_ (hbox);have n3_:=aM_ ((by rw [hg];exact (bS_ (by exact bZ_ HB)) : w.heap.size ≤ gb295));have n4_:=aM_ ((by rw [hg];exact (bS_ (by exact bZ_ HB)) : w.heap.size ≤ gb295));have n5_:=aM_ ((by rw [hg];exact Nat.ne_of_lt (blk_lt (g:=gb294) (o:=.cells #[.string a0_0,.int .i64 a0_1,.bool a0_2] 82 (0,0)) (by exact kZ_ BK294)) : gb294 ≠ gb295));have n6_:=aM_ ((by rw [hg];exact Nat.ne_of_gt (blk_lt (g:=gb294) (o:=.cells #[.string a0_0,.int .i64 a0_1,.bool a0_2] 82 (0,0)) (by exact kZ_ BK294)) : gb295 ≠ gb294));clear BK294;clear HB;have BK294:=n0_;have HB:=n1_;have BK295:=n2_;have GW295:=n3_;have GE295:=n4_;have NB294_295:=n5_;have NB295_294:=n6_;clear n0_ n1_ n2_ n3_ n4_ n5_ n6_;clear hb hbox hg;have hnb23:=NB294_295.out;have hnc23:=NB295_294.out;have hcz24_0 : w22.cell? ⟨gb294,0,none⟩ = some (.string a0_0):=(kC_ BK294.out 0).trans rfl;have hcz24_1 : w22.cell? ⟨gb294,1,none⟩ = some (.int .i64 a0_1):=(kC_ BK294.out 1).trans rfl;have hcz24_2 : w22.cell? ⟨gb294,2,none⟩ = some (.bool a0_2):=(kC_ BK294.out 2).trans rfl;have hfz24_0:=kF_ BK294.out 0;have hfz24_1:=kF_ BK294.out 1;have hfz24_2:=kF_ BK294.out 2;have hcz25_0 : w22.cell? ⟨gb295,0,none⟩ = some (.string a1_0):=(kC_ BK295.out 0).trans rfl;have hcz25_1 : w22.cell? ⟨gb295,1,none⟩ = some (.int .i64 a1_1):=(kC_ BK295.out 1).trans rfl;have hcz25_2 : w22.cell? ⟨gb295,2,none⟩ = some (.bool a1_2):=(kC_ BK295.out 2).trans rfl;have hfz25_0:=kF_ BK295.out 0;have hfz25_1:=kF_ BK295.out 1;have hfz25_2:=kF_ BK295.out 2))
  go_ret
  exact ⟨by first | rfl | (simp [errW_none,errW_some] <;> rfl) | (simp [*, errW_none,errW_some] <;> rfl),by exact bZ_ HB⟩
def laws_eqColS.l0 : Nat → List (S82) → List (S82) → Int → Option (Bool)
 | 0,_,_,_=>none
 | k + 1,x0,x1,x5=>if x5 < (x0.length : Int) then (if 0 ≤ x5 then (if x5 < (x1.length : Int) then ((laws_eqCol.f ((rd_T82 x0 x5).f0) ((rd_T82 x0 x5).f1) ((rd_T82 x0 x5).f2) ((rd_T82 x1 x5).f0) ((rd_T82 x1 x5).f1) ((rd_T82 x1 x5).f2)).bind fun t298=>(if t298 = true then (laws_eqColS.l0 k x0 x1 (wrap64 (x5 + 1))) else (some false))) else (none)) else (none)) else (some true)
def laws_eqColS.f (k : Nat) (l0 : List (S82)) (l1 : List (S82)) : Option (Bool):=if (l0.length : Int) = (l1.length : Int) then (laws_eqColS.l0 k l0 l1 0) else (some false)
theorem laws_eqColS.mono_l : ∀ k,(∀ y0 y1 y2,LeO (laws_eqColS.l0 k y0 y1 y2) (laws_eqColS.l0 (k + 1) y0 y1 y2))
 | 0=>fun _ _ _ r h=>by simp [laws_eqColS.l0] at h
 | k + 1=>by
  have ih0:=laws_eqColS.mono_l k
  ·intro y0 y1 y2
   unfold laws_eqColS.l0
   repeat' first
   | (with_reducible exact ih0 _ _ _)
   | (with_reducible exact LeO.refl _)
   | (with_reducible exact LeO.none _)
   | (with_reducible refine LeO.ite ?_ ?_)
   | (with_reducible refine LeO.bind ?_ (fun _=>?_))
   | exact ih0 _ _ _
   | exact LeO.none _
   | refine LeO.ite ?_ ?_
   | refine LeO.bind ?_ (fun _=>?_)
theorem laws_eqColS.mono : ∀ a0 a1 k,LeO (laws_eqColS.f k a0 a1) (laws_eqColS.f (k + 1) a0 a1):=by
 intro a0 a1 k
 have ih0:=laws_eqColS.mono_l k
 unfold laws_eqColS.f
 repeat' first
   | (with_reducible exact ih0 _ _ _)
   | (with_reducible exact LeO.refl _)
   | (with_reducible exact LeO.none _)
   | (with_reducible refine LeO.ite ?_ ?_)
   | (with_reducible refine LeO.bind ?_ (fun _=>?_))
   | exact ih0 _ _ _
   | exact LeO.none _
   | refine LeO.ite ?_ ?_
   | refine LeO.bind ?_ (fun _=>?_)
def laws_eqColS.T6 : Bool × List (List Nat × List Nat):=(true,[([],[]),([],[]),([0,1],[0,1]),([2],[2]),([],[]),([],[]),([4,5],[4,5]),([6],[6]),([3,7],[3,7]),([8],[8])])
def laws_eqColS.B6 : List Nat:=[0,0,3,7,0,0,48,112,255,511]
theorem laws_eqColS.tab6 : rtab .any (opsOf Tryd.f76 6) = laws_eqColS.T6:=by kernel_rfl
theorem laws_eqColS.bits6 : waitsOk laws_eqColS.T6.2 laws_eqColS.B6 = true:=by kernel_rfl
set_option maxHeartbeats 8000000 in
set_option maxRecDepth 100000 in
theorem laws_eqColS.calls (k : Nat) (A0 : Option Addr) (c0 : Nat) (l0 : List (S82)) (A1 : Option Addr) (c1 : Nat) (l1 : List (S82)) (r : Bool) (w : World) (hr0 : Kd.C k82 w A0 l0.length l0) (hc0 : l0.length ≤ c0) (hr1 : Kd.C k82 w A1 l1.length l1) (hc1 : l1.length ≤ c1) (h : laws_eqColS.f k l0 l1 = some r) :
  Calls Tryd.prog 76 #[.slice A0 l0.length c0,.slice A1 l1.length c1] w fun e w'=>e = .returned (.bool r) ∧ Below w.heap.size w w':=by
 have hu82:=Tryd.underlying82
 have HR0:=aM_ hr0
 have HC0:=aM_ hc0
 clear hr0 hc0
 have HR1:=aM_ hr1
 have HC1:=aM_ hc1
 clear hr1 hc1
 have HB:=aM_ (Below.refl w.heap.size w)
 have H : (if (l0.length : Int) = (l1.length : Int) then (laws_eqColS.l0 k l0 l1 0) else (some false)) = some r:=h
 clear h
 by_cases c3 : (l0.length : Int) = (l1.length : Int)
 ·rw [if_pos c3] at H
  have c3b0 : ((l0.length : Int) == (l1.length : Int)) = true:=beq_iff_eq.mpr c3
  have c3b1 : ((l0.length : Int) != (l1.length : Int)) = false:=bne_eq_false_iff_eq.mpr c3
  have c3b2 : (l0.length == l1.length) = true:=by first | simpa using c3 | (simp at c3 ⊢;omega)
  clear c3
  have H':=aM_ H
  clear H
  go_enter Tryd.func76,Tryd.ntmps76
  go_wp2
  (try simp only [Act.put,sI_,sS_,sZ_])
  go_loopg [5] k (fun kq v5 w'=>∃ (x5_1 : Int),v5 = .int .i64 x5_1 ∧ Aside0 (laws_eqColS.l0 kq l0 l1 x5_1 = some r) ∧ Aside0 (kq ≤ k) ∧ Aside0 (Below w.heap.size w w'))
  case atStart=>exact ⟨(0),(by first | rfl | (simp;done) | (simp [*];done)),H', ⟨Nat.le_refl _⟩,⟨by exact bZ_ HB⟩⟩
  case round =>
   clear H'
   try clear c1
   try clear p2
   try clear c3
   try clear c3b0
   try clear c3b1
   try clear c3b2
   obtain ⟨x5_1,rfl,HA,HK1,HB⟩:=hrel
   cases gk with
   | zero=>exact absurd HA.out (by simp [laws_eqColS.l0])
   | succ k1 =>
    have H:=HA.out
    clear HA
    simp only [laws_eqColS.l0] at H
    by_cases c4 : x5_1 < (l0.length : Int)
    ·rw [if_pos c4] at H
     have c4b0 : decide (x5_1 < (l0.length : Int)) = true:=decide_eq_true c4
     clear c4
     by_cases c5 : 0 ≤ x5_1
     ·rw [if_pos c5] at H
      have c5b0 : decide (0 ≤ x5_1) = true:=decide_eq_true c5
      clear c5
      by_cases c6 : x5_1 < (l1.length : Int)
      ·rw [if_pos c6] at H
       have c6b0 : decide (x5_1 < (l1.length : Int)) = true:=decide_eq_true c6
       clear c6
       replace H:=oB_ H
       obtain ⟨t298,A70,H⟩:=H
       replace H : (if t298 = true then (laws_eqColS.l0 k1 l0 l1 (wrap64 (x5_1 + 1))) else (some false)) = some r:=H
       have A7:=aM_ A70
       clear A70
       by_cases c8 : t298 = true
       ·subst c8
        have H1 : (laws_eqColS.l0 k1 l0 l1 (wrap64 (x5_1 + 1))) = some r:=by rw [if_pos rfl] at H;exact H
        clear H
        have H:=H1
        clear H1
        have H':=aM_ H
        clear H
        try go_wp2
        have n0_:=aM_ (bD_ HB.out)
        clear HB
        have HB:=n0_
        clear n0_
        have p296 : 0 ≤ (x5_1 : Int):=oT_ (by first | (with_reducible assumption) | assumption)
        have q296 : x5_1 < (l0.length : Int):=oT_ (by first | (with_reducible assumption) | assumption)
        obtain ⟨ad296,e296,hx296_0,hx296_1,hx296_2⟩:=at_T82 HR0.out x5_1 p296 q296
        have hw296_2:=hx296_2
        have hw296_1:=hx296_1
        have hw296_0:=hx296_0
        cases e296
        replace hx296_0:=(HB.out.cell (wL_ w _ hx296_0)).trans hx296_0
        replace hx296_1:=(HB.out.cell (wL_ w _ hx296_1)).trans hx296_1
        replace hx296_2:=(HB.out.cell (wL_ w _ hx296_2)).trans hx296_2
        replace p296:=eq_true p296
        replace q296:=eq_true q296
        have p297 : 0 ≤ (x5_1 : Int):=oT_ (by first | (with_reducible assumption) | assumption)
        have q297 : x5_1 < (l1.length : Int):=oT_ (by first | (with_reducible assumption) | assumption)
        obtain ⟨ad297,e297,hx297_0,hx297_1,hx297_2⟩:=at_T82 HR1.out x5_1 p297 q297
        have hw297_2:=hx297_2
        have hw297_1:=hx297_1
        have hw297_0:=hx297_0
        cases e297
        replace hx297_0:=(HB.out.cell (wL_ w _ hx297_0)).trans hx297_0
        replace hx297_1:=(HB.out.cell (wL_ w _ hx297_1)).trans hx297_1
        replace hx297_2:=(HB.out.cell (wL_ w _ hx297_2)).trans hx297_2
        replace p297:=eq_true p297
        replace q297:=eq_true q297
        refine start_ (n:=10) (S:=fun w'=>w'.cell? (ad296.add ((x5_1).toNat * 3)) = some (.string ((rd_T82 l0 x5_1).f0)) ∧ w'.cell? ⟨(ad296.add ((x5_1).toNat * 3)).block,(ad296.add ((x5_1).toNat * 3)).off + 1,none⟩ = some (.int .i64 ((rd_T82 l0 x5_1).f1)) ∧ w'.cell? ⟨(ad296.add ((x5_1).toNat * 3)).block,(ad296.add ((x5_1).toNat * 3)).off + 2,none⟩ = some (.bool ((rd_T82 l0 x5_1).f2)) ∧ w'.cell? (ad297.add ((x5_1).toNat * 3)) = some (.string ((rd_T82 l1 x5_1).f0)) ∧ w'.cell? ⟨(ad297.add ((x5_1).toNat * 3)).block,(ad297.add ((x5_1).toNat * 3)).off + 1,none⟩ = some (.int .i64 ((rd_T82 l1 x5_1).f1)) ∧ w'.cell? ⟨(ad297.add ((x5_1).toNat * 3)).block,(ad297.add ((x5_1).toNat * 3)).off + 2,none⟩ = some (.bool ((rd_T82 l1 x5_1).f2))) (ds:=[]) (tb_ 0 10) (by kernel_rfl) rfl rfl ⟨((HB.out.cell (wL_ w _ hw296_0)).trans hw296_0),((HB.out.cell (wL_ w _ hw296_1)).trans hw296_1),((HB.out.cell (wL_ w _ hw296_2)).trans hw296_2),((HB.out.cell (wL_ w _ hw297_0)).trans hw297_0),((HB.out.cell (wL_ w _ hw297_1)).trans hw297_1),((HB.out.cell (wL_ w _ hw297_2)).trans hw297_2)⟩ (fun hHeld=>?_);refine with_tabW laws_eqColS.tab6 laws_eqColS.bits6 (fun HT_ HW_=>?_)
        generalize wr.drew = w9 at HB hx296_0 hx296_1 hx296_2 hx297_0 hx297_1 hx297_2 hHeld ⊢
        refine pure_ (i:=0) (N:=some 17) (v:=?_) (a':=?_) (tb_ 1 9) rfl rfl (any_of HT_.out (by kernel_rfl)) (fun _ _ _ h=>h) (Or.inl ⟨by rfl,?_⟩) ?_ ?_
        rotate_left
        ·intro w'
         go_simp
         with_reducible rfl
        rotate_left
        ·simp only [Act.put,sI_,sZ_,sS_,i64_w,i32_w]
         rfl
        refine pure_ (i:=1) (N:=some 18) (v:=?_) (a':=?_) (tb_ 2 8) rfl rfl (any_of HT_.out (by kernel_rfl)) (fun _ _ _ h=>h) (Or.inl ⟨by rfl,?_⟩) ?_ ?_
        rotate_left
        ·intro w'
         go_simp
         with_reducible rfl
        rotate_left
        ·simp only [Act.put,sI_,sZ_,sS_,i64_w,i32_w]
         rfl
        refine pure_ (i:=2) (N:=some 19) (v:=?_) (a':=?_) (tb_ 3 7) rfl rfl (any_of HT_.out (by kernel_rfl)) (fun _ _ _ h=>h) (Or.inl ⟨by rfl,?_⟩) ?_ ?_
        rotate_left
        ·intro w'
         go_simp
         with_reducible rfl
        rotate_left
        ·simp only [Act.put,sI_,sZ_,sS_,i64_w,i32_w]
         rfl
        refine pure_ (i:=4) (N:=some 21) (v:=?_) (a':=?_) #[true,true,true,false,true,false,false,false,false,false] rfl rfl (any_of HT_.out (by kernel_rfl)) (fun _ _ _ h=>h) (Or.inl ⟨by rfl,?_⟩) ?_ ?_
        rotate_left
        ·intro w'
         go_simp
         with_reducible rfl
        rotate_left
        ·simp only [Act.put,sI_,sZ_,sS_,i64_w,i32_w]
         rfl
        refine pure_ (i:=5) (N:=some 22) (v:=?_) (a':=?_) #[true,true,true,false,true,true,false,false,false,false] rfl rfl (any_of HT_.out (by kernel_rfl)) (fun _ _ _ h=>h) (Or.inl ⟨by rfl,?_⟩) ?_ ?_
        rotate_left
        ·intro w'
         go_simp
         with_reducible rfl
        rotate_left
        ·simp only [Act.put,sI_,sZ_,sS_,i64_w,i32_w]
         rfl
        refine pure_ (i:=6) (N:=some 23) (v:=?_) (a':=?_) #[true,true,true,false,true,true,true,false,false,false] rfl rfl (any_of HT_.out (by kernel_rfl)) (fun _ _ _ h=>h) (Or.inl ⟨by rfl,?_⟩) ?_ ?_
        rotate_left
        ·intro w'
         go_simp
         with_reducible rfl
        rotate_left
        ·simp only [Act.put,sI_,sZ_,sS_,i64_w,i32_w]
         rfl
        refine take_ (i:=3) (N:=some 20) (v:=?_) (a':=?_) (tb_ 7 3) rfl rfl (take_ofW HT_.out HW_.out (by kernel_rfl)) (fun _ _ _ h=>h) (Or.inl ⟨by rfl,?_⟩) hHeld ?_ ?_
        rotate_left
        ·rintro w' ⟨s0,s1,s2,s3,s4,s5⟩
         go_simp
         with_reducible rfl
        rotate_left
        ·simp only [Act.put,sI_,sZ_,sS_,i64_w,i32_w]
         rfl
        refine take_ (i:=7) (N:=some 24) (v:=?_) (a':=?_) (tb_ 8 2) rfl rfl (take_ofW HT_.out HW_.out (by kernel_rfl)) (fun _ _ _ h=>h) (Or.inl ⟨by rfl,?_⟩) hHeld ?_ ?_
        rotate_left
        ·rintro w' ⟨s0,s1,s2,s3,s4,s5⟩
         go_simp
         with_reducible rfl
        rotate_left
        ·simp only [Act.put,sI_,sZ_,sS_,i64_w,i32_w]
         rfl
        refine one_ (i:=8) (N:=some 25) (tb_ 9 1) rfl rfl (one_of HT_.out (by kernel_rfl)) (by decide) (fun K hK=>?_)
        refine goes_ Tryd.func117 (by kernel_rfl) rfl #[.agg #[.string ((rd_T82 l0 x5_1).f0),.int .i64 ((rd_T82 l0 x5_1).f1),.bool ((rd_T82 l0 x5_1).f2)],.agg #[.string ((rd_T82 l1 x5_1).f0),.int .i64 ((rd_T82 l1 x5_1).f1),.bool ((rd_T82 l1 x5_1).f2)]] (by rfl) rfl rfl (by (try simp only [mA_,mC_,mN_]);first | done | rfl | (simp only [lD_,lT_];rfl)) ?_
        with_reducible refine (laws_eqCol.calls ((rd_T82 l0 x5_1).f0) ((rd_T82 l0 x5_1).f1) ((rd_T82 l0 x5_1).f2) ((rd_T82 l1 x5_1).f0) ((rd_T82 l1 x5_1).f1) ((rd_T82 l1 x5_1).f2) true _ A7.out).mono ?_
        rintro e w10 ⟨rfl,hb⟩
        refine ⟨_,rfl,?_⟩
        have n0_:=aM_ (bT_ (by exact bZ_ HB) hb)
        clear HB
        have HB:=n0_
        clear n0_
        (try clear hb)
        (try clear hb2)
        (try clear hk)
        (try clear hi)
        refine hK.out _ _ ⟨((HB.out.cell (wL_ w _ hw296_0)).trans hw296_0),((HB.out.cell (wL_ w _ hw296_1)).trans hw296_1),((HB.out.cell (wL_ w _ hw296_2)).trans hw296_2),((HB.out.cell (wL_ w _ hw297_0)).trans hw297_0),((HB.out.cell (wL_ w _ hw297_1)).trans hw297_1),((HB.out.cell (wL_ w _ hw297_2)).trans hw297_2)⟩ (fun hHeld=>?_)
        clear hK K
        refine norm_ (a':=?_) ?_ ?_
        rotate_left
        ·show Act.put _ (some 25) _ = _
         simp only [Act.put,sI_,sZ_,sS_,i64_w,i32_w]
         rfl
        refine pure_ (i:=9) (N:=some 26) (v:=?_) (a':=?_) (tb_ 10 0) rfl rfl (any_of HT_.out (by kernel_rfl)) (fun _ _ _ h=>h) (Or.inl ⟨by rfl,?_⟩) ?_ ?_
        rotate_left
        ·intro w'
         go_simp
         with_reducible rfl
        rotate_left
        ·simp only [Act.put,sI_,sZ_,sS_,i64_w,i32_w]
         rfl
        refine done_ (done_of HT_.out (by kernel_rfl)) ?_
        try go_wp2
        go_roundg k1
        case measure=>have:=HK1.out;omega
        case rel=>exact ⟨(wrap64 (x5_1 + 1)),(by first | rfl | (simp;done) | (simp [*];done)),H', ⟨by have:=HK1.out;omega⟩,⟨by exact bZ_ HB⟩⟩
       ·replace c8:=Bool.eq_false_iff.mpr c8
        subst c8
        have H1 : (some false) = some r:=by rw [if_neg (show ¬ (false = true) by decide)] at H;exact H
        clear H
        have H:=H1
        clear H1
        obtain rfl:=Option.some.inj H
        try go_wp2
        have n0_:=aM_ (bD_ HB.out)
        clear HB
        have HB:=n0_
        clear n0_
        have p296 : 0 ≤ (x5_1 : Int):=oT_ (by first | (with_reducible assumption) | assumption)
        have q296 : x5_1 < (l0.length : Int):=oT_ (by first | (with_reducible assumption) | assumption)
        obtain ⟨ad296,e296,hx296_0,hx296_1,hx296_2⟩:=at_T82 HR0.out x5_1 p296 q296
        have hw296_2:=hx296_2
        have hw296_1:=hx296_1
        have hw296_0:=hx296_0
        cases e296
        replace hx296_0:=(HB.out.cell (wL_ w _ hx296_0)).trans hx296_0
        replace hx296_1:=(HB.out.cell (wL_ w _ hx296_1)).trans hx296_1
        replace hx296_2:=(HB.out.cell (wL_ w _ hx296_2)).trans hx296_2
        replace p296:=eq_true p296
        replace q296:=eq_true q296
        have p297 : 0 ≤ (x5_1 : Int):=oT_ (by first | (with_reducible assumption) | assumption)
        have q297 : x5_1 < (l1.length : Int):=oT_ (by first | (with_reducible assumption) | assumption)
        obtain ⟨ad297,e297,hx297_0,hx297_1,hx297_2⟩:=at_T82 HR1.out x5_1 p297 q297
        have hw297_2:=hx297_2
        have hw297_1:=hx297_1
        have hw297_0:=hx297_0
        cases e297
        replace hx297_0:=(HB.out.cell (wL_ w _ hx297_0)).trans hx297_0
        replace hx297_1:=(HB.out.cell (wL_ w _ hx297_1)).trans hx297_1
        replace hx297_2:=(HB.out.cell (wL_ w _ hx297_2)).trans hx297_2
        replace p297:=eq_true p297
        replace q297:=eq_true q297
        refine start_ (n:=10) (S:=fun w'=>w'.cell? (ad296.add ((x5_1).toNat * 3)) = some (.string ((rd_T82 l0 x5_1).f0)) ∧ w'.cell? ⟨(ad296.add ((x5_1).toNat * 3)).block,(ad296.add ((x5_1).toNat * 3)).off + 1,none⟩ = some (.int .i64 ((rd_T82 l0 x5_1).f1)) ∧ w'.cell? ⟨(ad296.add ((x5_1).toNat * 3)).block,(ad296.add ((x5_1).toNat * 3)).off + 2,none⟩ = some (.bool ((rd_T82 l0 x5_1).f2)) ∧ w'.cell? (ad297.add ((x5_1).toNat * 3)) = some (.string ((rd_T82 l1 x5_1).f0)) ∧ w'.cell? ⟨(ad297.add ((x5_1).toNat * 3)).block,(ad297.add ((x5_1).toNat * 3)).off + 1,none⟩ = some (.int .i64 ((rd_T82 l1 x5_1).f1)) ∧ w'.cell? ⟨(ad297.add ((x5_1).toNat * 3)).block,(ad297.add ((x5_1).toNat * 3)).off + 2,none⟩ = some (.bool ((rd_T82 l1 x5_1).f2))) (ds:=[]) (tb_ 0 10) (by kernel_rfl) rfl rfl ⟨((HB.out.cell (wL_ w _ hw296_0)).trans hw296_0),((HB.out.cell (wL_ w _ hw296_1)).trans hw296_1),((HB.out.cell (wL_ w _ hw296_2)).trans hw296_2),((HB.out.cell (wL_ w _ hw297_0)).trans hw297_0),((HB.out.cell (wL_ w _ hw297_1)).trans hw297_1),((HB.out.cell (wL_ w _ hw297_2)).trans hw297_2)⟩ (fun hHeld=>?_);refine with_tabW laws_eqColS.tab6 laws_eqColS.bits6 (fun HT_ HW_=>?_)
        generalize wr.drew = w11 at HB hx296_0 hx296_1 hx296_2 hx297_0 hx297_1 hx297_2 hHeld ⊢
        refine pure_ (i:=0) (N:=some 17) (v:=?_) (a':=?_) (tb_ 1 9) rfl rfl (any_of HT_.out (by kernel_rfl)) (fun _ _ _ h=>h) (Or.inl ⟨by rfl,?_⟩) ?_ ?_
        rotate_left
        ·intro w'
         go_simp
         with_reducible rfl
        rotate_left
        ·simp only [Act.put,sI_,sZ_,sS_,i64_w,i32_w]
         rfl
        refine pure_ (i:=1) (N:=some 18) (v:=?_) (a':=?_) (tb_ 2 8) rfl rfl (any_of HT_.out (by kernel_rfl)) (fun _ _ _ h=>h) (Or.inl ⟨by rfl,?_⟩) ?_ ?_
        rotate_left
        ·intro w'
         go_simp
         with_reducible rfl
        rotate_left
        ·simp only [Act.put,sI_,sZ_,sS_,i64_w,i32_w]
         rfl
        refine pure_ (i:=2) (N:=some 19) (v:=?_) (a':=?_) (tb_ 3 7) rfl rfl (any_of HT_.out (by kernel_rfl)) (fun _ _ _ h=>h) (Or.inl ⟨by rfl,?_⟩) ?_ ?_
        rotate_left
        ·intro w'
         go_simp
         with_reducible rfl
        rotate_left
        ·simp only [Act.put,sI_,sZ_,sS_,i64_w,i32_w]
         rfl
        refine pure_ (i:=4) (N:=some 21) (v:=?_) (a':=?_) #[true,true,true,false,true,false,false,false,false,false] rfl rfl (any_of HT_.out (by kernel_rfl)) (fun _ _ _ h=>h) (Or.inl ⟨by rfl,?_⟩) ?_ ?_
        rotate_left
        ·intro w'
         go_simp
         with_reducible rfl
        rotate_left
        ·simp only [Act.put,sI_,sZ_,sS_,i64_w,i32_w]
         rfl
        refine pure_ (i:=5) (N:=some 22) (v:=?_) (a':=?_) #[true,true,true,false,true,true,false,false,false,false] rfl rfl (any_of HT_.out (by kernel_rfl)) (fun _ _ _ h=>h) (Or.inl ⟨by rfl,?_⟩) ?_ ?_
        rotate_left
        ·intro w'
         go_simp
         with_reducible rfl
        rotate_left
        ·simp only [Act.put,sI_,sZ_,sS_,i64_w,i32_w]
         rfl
        refine pure_ (i:=6) (N:=some 23) (v:=?_) (a':=?_) #[true,true,true,false,true,true,true,false,false,false] rfl rfl (any_of HT_.out (by kernel_rfl)) (fun _ _ _ h=>h) (Or.inl ⟨by rfl,?_⟩) ?_ ?_
        rotate_left
        ·intro w'
         go_simp
         with_reducible rfl
        rotate_left
        ·simp only [Act.put,sI_,sZ_,sS_,i64_w,i32_w]
         rfl
        refine take_ (i:=3) (N:=some 20) (v:=?_) (a':=?_) (tb_ 7 3) rfl rfl (take_ofW HT_.out HW_.out (by kernel_rfl)) (fun _ _ _ h=>h) (Or.inl ⟨by rfl,?_⟩) hHeld ?_ ?_
        rotate_left
        ·rintro w' ⟨s0,s1,s2,s3,s4,s5⟩
         go_simp
         with_reducible rfl
        rotate_left
        ·simp only [Act.put,sI_,sZ_,sS_,i64_w,i32_w]
         rfl
        refine take_ (i:=7) (N:=some 24) (v:=?_) (a':=?_) (tb_ 8 2) rfl rfl (take_ofW HT_.out HW_.out (by kernel_rfl)) (fun _ _ _ h=>h) (Or.inl ⟨by rfl,?_⟩) hHeld ?_ ?_
        rotate_left
        ·rintro w' ⟨s0,s1,s2,s3,s4,s5⟩
         go_simp
         with_reducible rfl
        rotate_left
        ·simp only [Act.put,sI_,sZ_,sS_,i64_w,i32_w]
         rfl
        refine one_ (i:=8) (N:=some 25) (tb_ 9 1) rfl rfl (one_of HT_.out (by kernel_rfl)) (by decide) (fun K hK=>?_)
        refine goes_ Tryd.func117 (by kernel_rfl) rfl #[.agg #[.string ((rd_T82 l0 x5_1).f0),.int .i64 ((rd_T82 l0 x5_1).f1),.bool ((rd_T82 l0 x5_1).f2)],.agg #[.string ((rd_T82 l1 x5_1).f0),.int .i64 ((rd_T82 l1 x5_1).f1),.bool ((rd_T82 l1 x5_1).f2)]] (by rfl) rfl rfl (by (try simp only [mA_,mC_,mN_]);first | done | rfl | (simp only [lD_,lT_];rfl)) ?_
        with_reducible refine (laws_eqCol.calls ((rd_T82 l0 x5_1).f0) ((rd_T82 l0 x5_1).f1) ((rd_T82 l0 x5_1).f2) ((rd_T82 l1 x5_1).f0) ((rd_T82 l1 x5_1).f1) ((rd_T82 l1 x5_1).f2) false _ A7.out).mono ?_
        rintro e w12 ⟨rfl,hb⟩
        refine ⟨_,rfl,?_⟩
        have n0_:=aM_ (bT_ (by exact bZ_ HB) hb)
        clear HB
        have HB:=n0_
        clear n0_
        (try clear hb)
        (try clear hb2)
        (try clear hk)
        (try clear hi)
        refine hK.out _ _ ⟨((HB.out.cell (wL_ w _ hw296_0)).trans hw296_0),((HB.out.cell (wL_ w _ hw296_1)).trans hw296_1),((HB.out.cell (wL_ w _ hw296_2)).trans hw296_2),((HB.out.cell (wL_ w _ hw297_0)).trans hw297_0),((HB.out.cell (wL_ w _ hw297_1)).trans hw297_1),((HB.out.cell (wL_ w _ hw297_2)).trans hw297_2)⟩ (fun hHeld=>?_)
        clear hK K
        refine norm_ (a':=?_) ?_ ?_
        rotate_left
        ·show Act.put _ (some 25) _ = _
         simp only [Act.put,sI_,sZ_,sS_,i64_w,i32_w]
         rfl
        refine pure_ (i:=9) (N:=some 26) (v:=?_) (a':=?_) (tb_ 10 0) rfl rfl (any_of HT_.out (by kernel_rfl)) (fun _ _ _ h=>h) (Or.inl ⟨by rfl,?_⟩) ?_ ?_
        rotate_left
        ·intro w'
         go_simp
         with_reducible rfl
        rotate_left
        ·simp only [Act.put,sI_,sZ_,sS_,i64_w,i32_w]
         rfl
        refine done_ (done_of HT_.out (by kernel_rfl)) ?_
        try go_wp2
        go_ret
        exact ⟨by first | rfl | (simp [errW_none,errW_some] <;> rfl) | (simp [*, errW_none,errW_some] <;> rfl),by exact bZ_ HB⟩
      ·rw [if_neg c6] at H
       exact absurd H (by simp)
     ·rw [if_neg c5] at H
      exact absurd H (by simp)
    ·rw [if_neg c4] at H
     have c4b0 : decide (x5_1 < (l0.length : Int)) = false:=decide_eq_false c4
     clear c4
     obtain rfl:=Option.some.inj H
     go_wp2
     go_ret
     exact ⟨by first | rfl | (simp [errW_none,errW_some] <;> rfl) | (simp [*, errW_none,errW_some] <;> rfl),by exact bZ_ HB⟩
 ·rw [if_neg c3] at H
  have c3b0 : ((l0.length : Int) == (l1.length : Int)) = false:=beq_eq_false_iff_ne.mpr c3
  have c3b1 : ((l0.length : Int) != (l1.length : Int)) = true:=bne_iff_ne.mpr c3
  have c3b2 : (l0.length == l1.length) = false:=by first | simpa using c3 | (simp at c3 ⊢;omega)
  obtain rfl:=Option.some.inj H
  go_enter Tryd.func76,Tryd.ntmps76
  go_wp2
  go_ret
  exact ⟨by first | rfl | (simp [errW_none,errW_some] <;> rfl) | (simp [*, errW_none,errW_some] <;> rfl),by exact bZ_ HB⟩
end Go.Proofs.YtipehkeabnfngaaDoor.PFnExactFirstBad
