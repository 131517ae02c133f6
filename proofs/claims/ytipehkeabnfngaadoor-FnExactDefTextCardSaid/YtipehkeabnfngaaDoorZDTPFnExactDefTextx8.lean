import Derived.Test.YtipehkeabnfngaaDoorZDTPFnExactDefTextx0
namespace Go.Proofs.YtipehkeabnfngaaDoor.PFnExactDefText
open Go.RowKit Go.Proofs.YtipehkeabnfngaaDoorW.PrintWords Go.Proofs.YtipehkeabnfngaaDoorW.PrintLast Go.Proofs.YtipehkeabnfngaaDoorW.PrintMore Go.Proofs.YtipehkeabnfngaaDoor.Xtra
attribute [local go_sem] max2_int min2_int max_two min_two max_three min_three max_four min_four str_leq str_gtr str_geq setCell_drewN cell_set2 cell_set3   -- for this text's walks alone
set_option linter.unusedVariables false
set_option linter.unusedSimpArgs false
def spec_l9Col.l0 : Nat → ByteArray → Int → ByteArray → List (S82) → List (S85) → List (S69) → Option (Int)
 | 0,_,_,_,_,_,_=>none
 | k + 1,x1,x5,x205000,x205001,x205002,x205003=>if x5 < (x205001.length : Int) then (if 0 ≤ x5 then (if ((rd_T82 x205001 x5).f0).toList = x1.toList then (some x5) else (spec_l9Col.l0 k x1 (wrap64 (x5 + 1)) x205000 x205001 x205002 x205003)) else (none)) else (some (-1))
def spec_l9Col.f (k : Nat) (a0_0 : ByteArray) (l0_1 : List (S82)) (l0_2 : List (S85)) (l0_3 : List (S69)) (a1 : ByteArray) : Option (Int):=spec_l9Col.l0 k a1 0 a0_0 l0_1 l0_2 l0_3
theorem spec_l9Col.mono_l : ∀ k,(∀ y0 y1 y2 y3 y4 y5,LeO (spec_l9Col.l0 k y0 y1 y2 y3 y4 y5) (spec_l9Col.l0 (k + 1) y0 y1 y2 y3 y4 y5))
 | 0=>fun _ _ _ _ _ _ r h=>by simp [spec_l9Col.l0] at h
 | k + 1=>by
  have ih0:=spec_l9Col.mono_l k
  ·intro y0 y1 y2 y3 y4 y5
   unfold spec_l9Col.l0
   repeat' first
   | (with_reducible exact ih0 _ _ _ _ _ _)
   | (with_reducible exact LeO.refl _)
   | (with_reducible exact LeO.none _)
   | (with_reducible refine LeO.ite ?_ ?_)
   | (with_reducible refine LeO.bind ?_ (fun _=>?_))
   | exact ih0 _ _ _ _ _ _
   | exact LeO.none _
   | refine LeO.ite ?_ ?_
   | refine LeO.bind ?_ (fun _=>?_)
theorem spec_l9Col.mono : ∀ a0 a1 a2 a3 a4 k,LeO (spec_l9Col.f k a0 a1 a2 a3 a4) (spec_l9Col.f (k + 1) a0 a1 a2 a3 a4):=by
 intro a0 a1 a2 a3 a4 k
 have ih0:=spec_l9Col.mono_l k
 unfold spec_l9Col.f
 repeat' first
   | (with_reducible exact ih0 _ _ _ _ _ _)
   | (with_reducible exact LeO.refl _)
   | (with_reducible exact LeO.none _)
   | (with_reducible refine LeO.ite ?_ ?_)
   | (with_reducible refine LeO.bind ?_ (fun _=>?_))
   | exact ih0 _ _ _ _ _ _
   | exact LeO.none _
   | refine LeO.ite ?_ ?_
   | refine LeO.bind ?_ (fun _=>?_)
set_option maxHeartbeats 8000000 in
set_option maxRecDepth 100000 in
theorem spec_l9Col.calls (k : Nat) (a0_0 : ByteArray) (A0_1 : Option Addr) (c0_1 : Nat) (l0_1 : List (S82)) (A0_2 : Option Addr) (c0_2 : Nat) (l0_2 : List (S85)) (A0_3 : Option Addr) (c0_3 : Nat) (l0_3 : List (S69)) (a1 : ByteArray) (r : Int) (w : World) (hr0_1 : Kd.C k82 w A0_1 l0_1.length l0_1) (hc0_1 : l0_1.length ≤ c0_1) (hr0_2 : Kd.C k85 w A0_2 l0_2.length l0_2) (hc0_2 : l0_2.length ≤ c0_2) (hr0_3 : Kd.C k69 w A0_3 l0_3.length l0_3) (hc0_3 : l0_3.length ≤ c0_3) (h : spec_l9Col.f k a0_0 l0_1 l0_2 l0_3 a1 = some r) :
  Calls Tryd.prog 108 #[.agg #[.string a0_0,.slice A0_1 l0_1.length c0_1,.slice A0_2 l0_2.length c0_2,.slice A0_3 l0_3.length c0_3],.string a1] w fun e w'=>e = .returned (.int .i64 r) ∧ Below w.heap.size w w':=by
 have hu35:=Tryd.underlying35
 have HR0_1:=aM_ hr0_1
 have HC0_1:=aM_ hc0_1
 clear hr0_1 hc0_1
 have HR0_2:=aM_ hr0_2
 have HC0_2:=aM_ hc0_2
 clear hr0_2 hc0_2
 have HR0_3:=aM_ hr0_3
 have HC0_3:=aM_ hc0_3
 clear hr0_3 hc0_3
 have HB:=aM_ (Below.refl w.heap.size w)
 have H : (spec_l9Col.l0 k a1 0 a0_0 l0_1 l0_2 l0_3) = some r:=h
 clear h
 have H':=aM_ H
 clear H
 go_enter Tryd.func108,Tryd.ntmps108
 go_wp2_with (first | ((with_reducible refine gate_dst (N:=2) rfl ?_);refine box_event ?hg (N:=2) ?hd (cs:=#[.string a0_0,.slice A0_1 l0_1.length c0_1,.slice A0_2 l0_2.length c0_2,.slice A0_3 l0_3.length c0_3]) (t:=35) ?hr ?_;(case hd=>rfl);(case hg=>rfl);(case hr=>first | (go_simp;done) | (go_simp;rfl));intro gb204 hg w3 hbox hb;have n0_:=aM_ (bT_ (by exact bZ_ HB) hb);have n1_:=aM_ (hbox);have n2_:=aM_ ((by rw [hg];exact (bS_ (by exact bZ_ HB)) : w.heap.size ≤ gb204));have n3_:=aM_ ((by rw [hg];exact (bS_ (by exact bZ_ HB)) : w.heap.size ≤ gb204));clear HB;have HB:=n0_;have BK204:=n1_;have GW204:=n2_;have GE204:=n3_;clear n0_ n1_ n2_ n3_;clear hb hbox hg))
 (try simp only [Act.put,sI_,sS_,sZ_])
 go_loopg [5] k (fun kq v5 w'=>∃ (x5_1 : Int),v5 = .int .i64 x5_1 ∧ Aside0 (spec_l9Col.l0 kq a1 x5_1 a0_0 l0_1 l0_2 l0_3 = some r) ∧ Aside0 (kq ≤ k) ∧ Aside0 (w'.heap[gb204]? = some (.cells #[.string a0_0,(.slice A0_1 l0_1.length c0_1),(.slice A0_2 l0_2.length c0_2),(.slice A0_3 l0_3.length c0_3)] 35 (0,0))) ∧ Aside0 (Below w.heap.size w w'))
 case atStart=>exact ⟨(0),(by first | rfl | (simp;done) | (simp [*];done)),H', ⟨Nat.le_refl _⟩,⟨by exact kZ_ BK204⟩,⟨by exact bZ_ HB⟩⟩
 case round =>
  clear H'
  try clear c1
  try clear p2
  obtain ⟨x5_1,rfl,HA,HK1,BK204,HB⟩:=hrel
  cases gk with
  | zero=>exact absurd HA.out (by simp [spec_l9Col.l0])
  | succ k1 =>
   have H:=HA.out
   clear HA
   simp only [spec_l9Col.l0] at H
   by_cases c4 : x5_1 < (l0_1.length : Int)
   ·rw [if_pos c4] at H
    have c4b0 : decide (x5_1 < (l0_1.length : Int)) = true:=decide_eq_true c4
    clear c4
    by_cases c5 : 0 ≤ x5_1
    ·rw [if_pos c5] at H
     have c5b0 : decide (0 ≤ x5_1) = true:=decide_eq_true c5
     clear c5
     by_cases c6 : ((rd_T82 l0_1 x5_1).f0).toList = a1.toList
     ·rw [if_pos c6] at H
      have c6b0 : (((rd_T82 l0_1 x5_1).f0).toList == a1.toList) = true:=beq_iff_eq.mpr c6
      have c6b1 : (((rd_T82 l0_1 x5_1).f0).toList != a1.toList) = false:=bne_eq_false_iff_eq.mpr c6
      clear c6
      obtain rfl:=Option.some.inj H
      have hcz7_0 : wr.cell? ⟨gb204,0,none⟩ = some (.string a0_0):=(kC_ BK204.out 0).trans rfl
      have hcz7_1 : wr.cell? ⟨gb204,1,none⟩ = some (.slice A0_1 l0_1.length c0_1):=(kC_ BK204.out 1).trans rfl
      have hcz7_2 : wr.cell? ⟨gb204,2,none⟩ = some (.slice A0_2 l0_2.length c0_2):=(kC_ BK204.out 2).trans rfl
      have hcz7_3 : wr.cell? ⟨gb204,3,none⟩ = some (.slice A0_3 l0_3.length c0_3):=(kC_ BK204.out 3).trans rfl
      have hfz7_0:=kF_ BK204.out 0
      have hfz7_1:=kF_ BK204.out 1
      have hfz7_2:=kF_ BK204.out 2
      have hfz7_3:=kF_ BK204.out 3
      have p205 : 0 ≤ (x5_1 : Int):=oT_ (by first | (with_reducible assumption) | assumption)
      have q205 : x5_1 < (l0_1.length : Int):=oT_ (by first | (with_reducible assumption) | assumption)
      obtain ⟨ad205,e205,hx205_0,hx205_1,hx205_2⟩:=at_T82 HR0_1.out x5_1 p205 q205
      cases e205
      replace hx205_0:=(HB.out.cell (wL_ w _ hx205_0)).trans hx205_0
      replace hx205_1:=(HB.out.cell (wL_ w _ hx205_1)).trans hx205_1
      replace hx205_2:=(HB.out.cell (wL_ w _ hx205_2)).trans hx205_2
      replace p205:=eq_true p205
      replace q205:=eq_true q205
      go_wp2
      go_ret
      exact ⟨by first | rfl | (simp [errW_none,errW_some] <;> rfl) | (simp [*, errW_none,errW_some] <;> rfl),by exact bZ_ HB⟩
     ·rw [if_neg c6] at H
      have c6b0 : (((rd_T82 l0_1 x5_1).f0).toList == a1.toList) = false:=beq_eq_false_iff_ne.mpr c6
      have c6b1 : (((rd_T82 l0_1 x5_1).f0).toList != a1.toList) = true:=bne_iff_ne.mpr c6
      have H':=aM_ H
      clear H
      have hcz8_0 : wr.cell? ⟨gb204,0,none⟩ = some (.string a0_0):=(kC_ BK204.out 0).trans rfl
      have hcz8_1 : wr.cell? ⟨gb204,1,none⟩ = some (.slice A0_1 l0_1.length c0_1):=(kC_ BK204.out 1).trans rfl
      have hcz8_2 : wr.cell? ⟨gb204,2,none⟩ = some (.slice A0_2 l0_2.length c0_2):=(kC_ BK204.out 2).trans rfl
      have hcz8_3 : wr.cell? ⟨gb204,3,none⟩ = some (.slice A0_3 l0_3.length c0_3):=(kC_ BK204.out 3).trans rfl
      have hfz8_0:=kF_ BK204.out 0
      have hfz8_1:=kF_ BK204.out 1
      have hfz8_2:=kF_ BK204.out 2
      have hfz8_3:=kF_ BK204.out 3
      have p205 : 0 ≤ (x5_1 : Int):=oT_ (by first | (with_reducible assumption) | assumption)
      have q205 : x5_1 < (l0_1.length : Int):=oT_ (by first | (with_reducible assumption) | assumption)
      obtain ⟨ad205,e205,hx205_0,hx205_1,hx205_2⟩:=at_T82 HR0_1.out x5_1 p205 q205
      cases e205
      replace hx205_0:=(HB.out.cell (wL_ w _ hx205_0)).trans hx205_0
      replace hx205_1:=(HB.out.cell (wL_ w _ hx205_1)).trans hx205_1
      replace hx205_2:=(HB.out.cell (wL_ w _ hx205_2)).trans hx205_2
      replace p205:=eq_true p205
      replace q205:=eq_true q205
      go_wp2
      go_roundg k1
      case measure=>have:=HK1.out;omega
      case rel=>exact ⟨(wrap64 (x5_1 + 1)),(by first | rfl | (simp;done) | (simp [*];done)),H', ⟨by have:=HK1.out;omega⟩,⟨by exact kZ_ BK204⟩,⟨by exact bZ_ HB⟩⟩
    ·rw [if_neg c5] at H
     exact absurd H (by simp)
   ·rw [if_neg c4] at H
    have c4b0 : decide (x5_1 < (l0_1.length : Int)) = false:=decide_eq_false c4
    clear c4
    obtain rfl:=Option.some.inj H
    have hcz9_0 : wr.cell? ⟨gb204,0,none⟩ = some (.string a0_0):=(kC_ BK204.out 0).trans rfl
    have hcz9_1 : wr.cell? ⟨gb204,1,none⟩ = some (.slice A0_1 l0_1.length c0_1):=(kC_ BK204.out 1).trans rfl
    have hcz9_2 : wr.cell? ⟨gb204,2,none⟩ = some (.slice A0_2 l0_2.length c0_2):=(kC_ BK204.out 2).trans rfl
    have hcz9_3 : wr.cell? ⟨gb204,3,none⟩ = some (.slice A0_3 l0_3.length c0_3):=(kC_ BK204.out 3).trans rfl
    have hfz9_0:=kF_ BK204.out 0
    have hfz9_1:=kF_ BK204.out 1
    have hfz9_2:=kF_ BK204.out 2
    have hfz9_3:=kF_ BK204.out 3
    go_wp2
    go_ret
    exact ⟨by first | rfl | (simp [errW_none,errW_some] <;> rfl) | (simp [*, errW_none,errW_some] <;> rfl),by exact bZ_ HB⟩
end Go.Proofs.YtipehkeabnfngaaDoor.PFnExactDefText
