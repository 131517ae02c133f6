import Derived.Test.YtipehkeabnfngaaDoorZDSPFnExactDefsTextx0
import Derived.Test.YtipehkeabnfngaaDoorZDSPFnExactDefsTextx5
namespace Go.Proofs.YtipehkeabnfngaaDoor.PFnExactDefsText
open Go.RowKit Go.Proofs.YtipehkeabnfngaaDoorW.PrintWords Go.Proofs.YtipehkeabnfngaaDoorW.PrintLast Go.Proofs.YtipehkeabnfngaaDoorW.PrintMore Go.Proofs.YtipehkeabnfngaaDoor.Xtra
attribute [local go_sem] max2_int min2_int max_two min_two max_three min_three max_four min_four str_leq str_gtr str_geq setCell_drewN cell_set2 cell_set3   -- for this text's walks alone
set_option linter.unusedVariables false
set_option linter.unusedSimpArgs false
mutual
def spec_l9Names.l0 : Nat → Int → ByteArray → List (S82) → List (S85) → List (S69) → Option (Bool)
 | 0,_,_,_,_,_=>none
 | k + 1,x3,x214000,x214001,x214002,x214003=>if x3 < (x214001.length : Int) then (if 0 ≤ x3 then ((spec_l9Word.f k ((rd_T82 x214001 x3).f0)).bind fun t215=>(if t215 = true then (spec_l9Names.l0 k (wrap64 (x3 + 1)) x214000 x214001 x214002 x214003) else (some false))) else (none)) else (spec_l9Names.l1 k 0 x214000 x214001 x214002 x214003)
def spec_l9Names.l1 : Nat → Int → ByteArray → List (S82) → List (S85) → List (S69) → Option (Bool)
 | 0,_,_,_,_,_=>none
 | k + 1,x4,x214000,x214001,x214002,x214003=>if x4 < (x214003.length : Int) then (if 0 ≤ x4 then ((spec_l9Word.f k ((rd_T69 x214003 x4).f0)).bind fun t217=>(if t217 = true then (spec_l9Names.l1 k (wrap64 (x4 + 1)) x214000 x214001 x214002 x214003) else (some false))) else (none)) else ((spec_l9Word.f k x214000).bind fun t218=>(some t218))
end
def spec_l9Names.f (k : Nat) (a0_0 : ByteArray) (l0_1 : List (S82)) (l0_2 : List (S85)) (l0_3 : List (S69)) : Option (Bool):=spec_l9Names.l0 k 0 a0_0 l0_1 l0_2 l0_3
theorem spec_l9Names.mono_l : ∀ k,(∀ y0 y1 y2 y3 y4,LeO (spec_l9Names.l0 k y0 y1 y2 y3 y4) (spec_l9Names.l0 (k + 1) y0 y1 y2 y3 y4)) ∧ (∀ y0 y1 y2 y3 y4,LeO (spec_l9Names.l1 k y0 y1 y2 y3 y4) (spec_l9Names.l1 (k + 1) y0 y1 y2 y3 y4))
 | 0=>⟨fun _ _ _ _ _ r h=>by simp [spec_l9Names.l0] at h,fun _ _ _ _ _ r h=>by simp [spec_l9Names.l1] at h⟩
 | k + 1=>by
  obtain ⟨ih0,ih1⟩:=spec_l9Names.mono_l k
  refine ⟨?_,?_⟩
  ·intro y0 y1 y2 y3 y4
   unfold spec_l9Names.l0
   repeat' first
   | (with_reducible exact ih0 _ _ _ _ _)
   | (with_reducible exact ih1 _ _ _ _ _)
   | (with_reducible exact spec_l9Word.mono _ _)
   | (with_reducible exact LeO.refl _)
   | (with_reducible exact LeO.none _)
   | (with_reducible refine LeO.ite ?_ ?_)
   | (with_reducible refine LeO.bind ?_ (fun _=>?_))
   | exact ih0 _ _ _ _ _
   | exact ih1 _ _ _ _ _
   | exact spec_l9Word.mono _ _
   | exact LeO.none _
   | refine LeO.ite ?_ ?_
   | refine LeO.bind ?_ (fun _=>?_)
  ·intro y0 y1 y2 y3 y4
   unfold spec_l9Names.l1
   repeat' first
   | (with_reducible exact ih0 _ _ _ _ _)
   | (with_reducible exact ih1 _ _ _ _ _)
   | (with_reducible exact spec_l9Word.mono _ _)
   | (with_reducible exact LeO.refl _)
   | (with_reducible exact LeO.none _)
   | (with_reducible refine LeO.ite ?_ ?_)
   | (with_reducible refine LeO.bind ?_ (fun _=>?_))
   | exact ih0 _ _ _ _ _
   | exact ih1 _ _ _ _ _
   | exact spec_l9Word.mono _ _
   | exact LeO.none _
   | refine LeO.ite ?_ ?_
   | refine LeO.bind ?_ (fun _=>?_)
theorem spec_l9Names.mono : ∀ a0 a1 a2 a3 k,LeO (spec_l9Names.f k a0 a1 a2 a3) (spec_l9Names.f (k + 1) a0 a1 a2 a3):=by
 intro a0 a1 a2 a3 k
 obtain ⟨ih0,ih1⟩:=spec_l9Names.mono_l k
 unfold spec_l9Names.f
 repeat' first
   | (with_reducible exact ih0 _ _ _ _ _)
   | (with_reducible exact ih1 _ _ _ _ _)
   | (with_reducible exact spec_l9Word.mono _ _)
   | (with_reducible exact LeO.refl _)
   | (with_reducible exact LeO.none _)
   | (with_reducible refine LeO.ite ?_ ?_)
   | (with_reducible refine LeO.bind ?_ (fun _=>?_))
   | exact ih0 _ _ _ _ _
   | exact ih1 _ _ _ _ _
   | exact spec_l9Word.mono _ _
   | exact LeO.none _
   | refine LeO.ite ?_ ?_
   | refine LeO.bind ?_ (fun _=>?_)
set_option maxHeartbeats 8000000 in
set_option maxRecDepth 100000 in
theorem spec_l9Names.calls (k : Nat) (a0_0 : ByteArray) (A0_1 : Option Addr) (c0_1 : Nat) (l0_1 : List (S82)) (A0_2 : Option Addr) (c0_2 : Nat) (l0_2 : List (S85)) (A0_3 : Option Addr) (c0_3 : Nat) (l0_3 : List (S69)) (r : Bool) (w : World) (hr0_1 : Kd.C k82 w A0_1 l0_1.length l0_1) (hc0_1 : l0_1.length ≤ c0_1) (hr0_2 : Kd.C k85 w A0_2 l0_2.length l0_2) (hc0_2 : l0_2.length ≤ c0_2) (hr0_3 : Kd.C k69 w A0_3 l0_3.length l0_3) (hc0_3 : l0_3.length ≤ c0_3) (h : spec_l9Names.f k a0_0 l0_1 l0_2 l0_3 = some r) :
  Calls Tryd.prog 60 #[.agg #[.string a0_0,.slice A0_1 l0_1.length c0_1,.slice A0_2 l0_2.length c0_2,.slice A0_3 l0_3.length c0_3]] w fun e w'=>e = .returned (.bool r) ∧ Below w.heap.size w w':=by
 have hu35:=Tryd.underlying35
 have HR0_1:=aM_ hr0_1
 have HC0_1:=aM_ hc0_1
 clear hr0_1 hc0_1
 have HR0_2:=aM_ hr0_2
 have HC0_2:=aM_ hc0_2
 clear hr0_2 hc0_2
 have HR0_3:=aM_ hr0_3
 have HC0_3:=aM_ hc0_3
 clear hr0_3 hc0_3
 have HB:=aM_ (Below.refl w.heap.size w)
 have H : (spec_l9Names.l0 k 0 a0_0 l0_1 l0_2 l0_3) = some r:=h
 clear h
 have H':=aM_ H
 clear H
 go_enter Tryd.func60,Tryd.ntmps60
 go_wp2_with (first | ((with_reducible refine gate_dst (N:=1) rfl ?_);refine box_event ?hg (N:=1) ?hd (cs:=#[.string a0_0,.slice A0_1 l0_1.length c0_1,.slice A0_2 l0_2.length c0_2,.slice A0_3 l0_3.length c0_3]) (t:=35) ?hr ?_;(case hd=>rfl);(case hg=>rfl);(case hr=>first | (go_simp;done) | (go_simp;rfl));intro gb213 hg w2 hbox hb;have n0_:=aM_ (bT_ (by exact bZ_ HB) hb);have n1_:=aM_ (hbox);have n2_:=aM_ ((by rw [hg];exact (bS_ (by exact bZ_ HB)) : w.heap.size ≤ gb213));have n3_:=aM_ ((by rw [hg];exact (bS_ (by exact bZ_ HB)) : w.heap.size ≤ gb213));clear HB;have HB:=n0_;have BK213:=n1_;have GW213:=n2_;have GE213:=n3_;clear n0_ n1_ n2_ n3_ hb hbox hg))
 (try simp only [Act.put,sI_,sS_,sZ_])
 go_loopg [3] k (fun kq v3 w'=>∃ (x3_1 : Int),v3 = .int .i64 x3_1 ∧ Aside0 (spec_l9Names.l0 kq x3_1 a0_0 l0_1 l0_2 l0_3 = some r) ∧ Aside0 (kq ≤ k) ∧ Aside0 (w'.heap[gb213]? = some (.cells #[.string a0_0,(.slice A0_1 l0_1.length c0_1),(.slice A0_2 l0_2.length c0_2),(.slice A0_3 l0_3.length c0_3)] 35 (0,0))) ∧ Aside0 (Below w.heap.size w w'))
 case atStart=>exact ⟨(0),(by first | rfl | (simp;done) | (simp [*];done)),H', ⟨Nat.le_refl _⟩,⟨by exact kZ_ BK213⟩,⟨by exact bZ_ HB⟩⟩
 case round =>
  clear H'
  obtain ⟨x3_1,rfl,HA,HK1,BK213,HB⟩:=hrel
  cases gk with
  | zero=>exact absurd HA.out (by simp [spec_l9Names.l0])
  | succ k1 =>
   have H:=HA.out
   clear HA
   simp only [spec_l9Names.l0] at H
   by_cases c3 : x3_1 < (l0_1.length : Int)
   ·rw [if_pos c3] at H
    have c3b0 : decide (x3_1 < (l0_1.length : Int)) = true:=decide_eq_true c3
    clear c3
    by_cases c4 : 0 ≤ x3_1
    ·rw [if_pos c4] at H
     have c4b0 : decide (0 ≤ x3_1) = true:=decide_eq_true c4
     clear c4
     replace H:=oB_ H
     obtain ⟨t215,A50,H⟩:=H
     replace H : (if t215 = true then (spec_l9Names.l0 k1 (wrap64 (x3_1 + 1)) a0_0 l0_1 l0_2 l0_3) else (some false)) = some r:=H
     have A5:=aM_ A50
     clear A50
     by_cases c6 : t215 = true
     ·subst c6
      have H1 : (spec_l9Names.l0 k1 (wrap64 (x3_1 + 1)) a0_0 l0_1 l0_2 l0_3) = some r:=by rw [if_pos rfl] at H;exact H
      clear H
      have H:=H1
      clear H1
      have H':=aM_ H
      clear H
      have hcz7_0 : wr.cell? ⟨gb213,0,none⟩ = some (.string a0_0):=(kC_ BK213.out 0).trans rfl
      have hcz7_1 : wr.cell? ⟨gb213,1,none⟩ = some (.slice A0_1 l0_1.length c0_1):=(kC_ BK213.out 1).trans rfl
      have hcz7_2 : wr.cell? ⟨gb213,2,none⟩ = some (.slice A0_2 l0_2.length c0_2):=(kC_ BK213.out 2).trans rfl
      have hcz7_3 : wr.cell? ⟨gb213,3,none⟩ = some (.slice A0_3 l0_3.length c0_3):=(kC_ BK213.out 3).trans rfl
      have hfz7_0:=kF_ BK213.out 0
      have hfz7_1:=kF_ BK213.out 1
      have hfz7_2:=kF_ BK213.out 2
      have hfz7_3:=kF_ BK213.out 3
      have p214 : 0 ≤ (x3_1 : Int):=oT_ (by first | (with_reducible assumption) | assumption)
      have q214 : x3_1 < (l0_1.length : Int):=oT_ (by first | (with_reducible assumption) | assumption)
      obtain ⟨ad214,e214,hx214_0,hx214_1,hx214_2⟩:=at_T82 HR0_1.out x3_1 p214 q214
      cases e214
      replace hx214_0:=(HB.out.cell (wL_ w _ hx214_0)).trans hx214_0
      replace hx214_1:=(HB.out.cell (wL_ w _ hx214_1)).trans hx214_1
      replace hx214_2:=(HB.out.cell (wL_ w _ hx214_2)).trans hx214_2
      replace p214:=eq_true p214
      replace q214:=eq_true q214
      go_wp2_with (first | ((with_reducible refine gate_callee (f:=107) rfl ?_);refine goesL_ (some 18) rfl rfl Tryd.func107 (by kernel_rfl) rfl #[.string ((rd_T82 l0_1 x3_1).f0)] rfl (by (try simp only [mA_,mC_,mN_]);first | done | rfl | (simp only [lD_,lT_];rfl)) ?_;(with_reducible refine (spec_l9Word.calls k1 ((rd_T82 l0_1 x3_1).f0) true _ A5.out).mono ?_);rintro e w8 ⟨rfl,hb⟩;refine ⟨_,rfl,?_⟩;have n0_:=aM_ (blk_below (g:=gb213) (o:=.cells #[.string a0_0,.slice (some ad214) l0_1.length c0_1,.slice A0_2 l0_2.length c0_2,.slice A0_3 l0_3.length c0_3] 35 (0,0)) (by exact kZ_ BK213) hb);have n1_:=aM_ (bT_ (by exact bZ_ HB) hb);clear BK213 HB;have BK213:=n0_;have HB:=n1_;clear n0_ n1_ hb))
      go_roundg k1
      case measure=>have:=HK1.out;omega
      case rel=>exact ⟨(wrap64 (x3_1 + 1)),(by first | rfl | (simp;done) | (simp [*];done)),H', ⟨by have:=HK1.out;omega⟩,⟨by exact kZ_ BK213⟩,⟨by exact bZ_ HB⟩⟩
     ·replace c6:=Bool.eq_false_iff.mpr c6
      subst c6
      have H1 : (some false) = some r:=by rw [if_neg (show ¬ (false = true) by decide)] at H;exact H
      clear H
      have H:=H1
      clear H1
      obtain rfl:=Option.some.inj H
      have hcz9_0 : wr.cell? ⟨gb213,0,none⟩ = some (.string a0_0):=(kC_ BK213.out 0).trans rfl
      have hcz9_1 : wr.cell? ⟨gb213,1,none⟩ = some (.slice A0_1 l0_1.length c0_1):=(kC_ BK213.out 1).trans rfl
      have hcz9_2 : wr.cell? ⟨gb213,2,none⟩ = some (.slice A0_2 l0_2.length c0_2):=(kC_ BK213.out 2).trans rfl
      have hcz9_3 : wr.cell? ⟨gb213,3,none⟩ = some (.slice A0_3 l0_3.length c0_3):=(kC_ BK213.out 3).trans rfl
      have hfz9_0:=kF_ BK213.out 0
      have hfz9_1:=kF_ BK213.out 1
      have hfz9_2:=kF_ BK213.out 2
      have hfz9_3:=kF_ BK213.out 3
      have p214 : 0 ≤ (x3_1 : Int):=oT_ (by first | (with_reducible assumption) | assumption)
      have q214 : x3_1 < (l0_1.length : Int):=oT_ (by first | (with_reducible assumption) | assumption)
      obtain ⟨ad214,e214,hx214_0,hx214_1,hx214_2⟩:=at_T82 HR0_1.out x3_1 p214 q214
      cases e214
      replace hx214_0:=(HB.out.cell (wL_ w _ hx214_0)).trans hx214_0
      replace hx214_1:=(HB.out.cell (wL_ w _ hx214_1)).trans hx214_1
      replace hx214_2:=(HB.out.cell (wL_ w _ hx214_2)).trans hx214_2
      replace p214:=eq_true p214
      replace q214:=eq_true q214
      go_wp2_with (first | ((with_reducible refine gate_callee (f:=107) rfl ?_);refine goesL_ (some 18) rfl rfl Tryd.func107 (by kernel_rfl) rfl #[.string ((rd_T82 l0_1 x3_1).f0)] rfl (by (try simp only [mA_,mC_,mN_]);first | done | rfl | (simp only [lD_,lT_];rfl)) ?_;(with_reducible refine (spec_l9Word.calls k1 ((rd_T82 l0_1 x3_1).f0) false _ A5.out).mono ?_);rintro e w10 ⟨rfl,hb⟩;refine ⟨_,rfl,?_⟩;have n0_:=aM_ (blk_below (g:=gb213) (o:=.cells #[.string a0_0,.slice (some ad214) l0_1.length c0_1,.slice A0_2 l0_2.length c0_2,.slice A0_3 l0_3.length c0_3] 35 (0,0)) (by exact kZ_ BK213) hb);have n1_:=aM_ (bT_ (by exact bZ_ HB) hb);clear BK213 HB;have BK213:=n0_;have HB:=n1_;clear n0_ n1_ hb))
      go_ret
      exact ⟨by first | rfl | (simp [errW_none,errW_some] <;> rfl) | (simp [*, errW_none,errW_some] <;> rfl),by exact bZ_ HB⟩
    ·rw [if_neg c4] at H
     exact absurd H (by simp)
   ·rw [if_neg c3] at H
    have c3b0 : decide (x3_1 < (l0_1.length : Int)) = false:=decide_eq_false c3
    clear c3
    have H':=aM_ H
    clear H
    have hcz11_0 : wr.cell? ⟨gb213,0,none⟩ = some (.string a0_0):=(kC_ BK213.out 0).trans rfl
    have hcz11_1 : wr.cell? ⟨gb213,1,none⟩ = some (.slice A0_1 l0_1.length c0_1):=(kC_ BK213.out 1).trans rfl
    have hcz11_2 : wr.cell? ⟨gb213,2,none⟩ = some (.slice A0_2 l0_2.length c0_2):=(kC_ BK213.out 2).trans rfl
    have hcz11_3 : wr.cell? ⟨gb213,3,none⟩ = some (.slice A0_3 l0_3.length c0_3):=(kC_ BK213.out 3).trans rfl
    have hfz11_0:=kF_ BK213.out 0
    have hfz11_1:=kF_ BK213.out 1
    have hfz11_2:=kF_ BK213.out 2
    have hfz11_3:=kF_ BK213.out 3
    go_wp2
    (try simp only [Act.put,sI_,sS_,sZ_])
    go_loopg [4] k1 (fun kq v4 w'=>∃ (x4_2 : Int),v4 = .int .i64 x4_2 ∧ Aside0 (spec_l9Names.l1 kq x4_2 a0_0 l0_1 l0_2 l0_3 = some r) ∧ Aside0 (kq ≤ k1) ∧ Aside0 (w'.heap[gb213]? = some (.cells #[.string a0_0,(.slice A0_1 l0_1.length c0_1),(.slice A0_2 l0_2.length c0_2),(.slice A0_3 l0_3.length c0_3)] 35 (0,0))) ∧ Aside0 (Below w.heap.size w w'))
    case atStart=>exact ⟨(0),(by first | rfl | (simp;done) | (simp [*];done)),H', ⟨Nat.le_refl _⟩,⟨by exact kZ_ BK213⟩,⟨by exact bZ_ HB⟩⟩
    case round =>
     clear H'
     clear c3b0 hcz11_0 hcz11_1 hcz11_2 hcz11_3 hfz11_0 hfz11_1 hfz11_2 hfz11_3
     obtain ⟨x4_2,rfl,HA,HK2,BK213,HB⟩:=hrel
     cases gk with
     | zero=>exact absurd HA.out (by simp [spec_l9Names.l1])
     | succ k2 =>
      have H:=HA.out
      clear HA
      simp only [spec_l9Names.l1] at H
      by_cases c12 : x4_2 < (l0_3.length : Int)
      ·rw [if_pos c12] at H
       have c12b0 : decide (x4_2 < (l0_3.length : Int)) = true:=decide_eq_true c12
       clear c12
       by_cases c13 : 0 ≤ x4_2
       ·rw [if_pos c13] at H
        have c13b0 : decide (0 ≤ x4_2) = true:=decide_eq_true c13
        clear c13
        replace H:=oB_ H
        obtain ⟨t217,A140,H⟩:=H
        replace H : (if t217 = true then (spec_l9Names.l1 k2 (wrap64 (x4_2 + 1)) a0_0 l0_1 l0_2 l0_3) else (some false)) = some r:=H
        have A14:=aM_ A140
        clear A140
        by_cases c15 : t217 = true
        ·subst c15
         have H1 : (spec_l9Names.l1 k2 (wrap64 (x4_2 + 1)) a0_0 l0_1 l0_2 l0_3) = some r:=by rw [if_pos rfl] at H;exact H
         clear H
         have H:=H1
         clear H1
         have H':=aM_ H
         clear H
         have hcz16_0 : wr.cell? ⟨gb213,0,none⟩ = some (.string a0_0):=(kC_ BK213.out 0).trans rfl
         have hcz16_1 : wr.cell? ⟨gb213,1,none⟩ = some (.slice A0_1 l0_1.length c0_1):=(kC_ BK213.out 1).trans rfl
         have hcz16_2 : wr.cell? ⟨gb213,2,none⟩ = some (.slice A0_2 l0_2.length c0_2):=(kC_ BK213.out 2).trans rfl
         have hcz16_3 : wr.cell? ⟨gb213,3,none⟩ = some (.slice A0_3 l0_3.length c0_3):=(kC_ BK213.out 3).trans rfl
         have hfz16_0:=kF_ BK213.out 0
         have hfz16_1:=kF_ BK213.out 1
         have hfz16_2:=kF_ BK213.out 2
         have hfz16_3:=kF_ BK213.out 3
         have p216 : 0 ≤ (x4_2 : Int):=oT_ (by first | (with_reducible assumption) | assumption)
         have q216 : x4_2 < (l0_3.length : Int):=oT_ (by first | (with_reducible assumption) | assumption)
         obtain ⟨ad216,A216_2,c216_2,e216,hx216_0,hx216_1,hx216_2,hl216_2,hi216_2⟩:=at_T69 HR0_3.out x4_2 p216 q216
         cases e216
         replace hx216_0:=(HB.out.cell (wL_ w _ hx216_0)).trans hx216_0
         replace hx216_1:=(HB.out.cell (wL_ w _ hx216_1)).trans hx216_1
         replace hx216_2:=(HB.out.cell (wL_ w _ hx216_2)).trans hx216_2
         have HR216_2:=aM_ hi216_2
         have HC216_2:=aM_ hl216_2
         clear hi216_2 hl216_2
         replace p216:=eq_true p216
         replace q216:=eq_true q216
         go_wp2_with (first | ((with_reducible refine gate_callee (f:=107) rfl ?_);refine goesL_ (some 33) rfl rfl Tryd.func107 (by kernel_rfl) rfl #[.string ((rd_T69 l0_3 x4_2).f0)] rfl (by (try simp only [mA_,mC_,mN_]);first | done | rfl | (simp only [lD_,lT_];rfl)) ?_;(with_reducible refine (spec_l9Word.calls k2 ((rd_T69 l0_3 x4_2).f0) true _ A14.out).mono ?_);rintro e w17 ⟨rfl,hb⟩;refine ⟨_,rfl,?_⟩;have n0_:=aM_ (blk_below (g:=gb213) (o:=.cells #[.string a0_0,.slice A0_1 l0_1.length c0_1,.slice A0_2 l0_2.length c0_2,.slice (some ad216) l0_3.length c0_3] 35 (0,0)) (by exact kZ_ BK213) hb);have n1_:=aM_ (bT_ (by exact bZ_ HB) hb);clear BK213 HB;have BK213:=n0_;have HB:=n1_;clear n0_ n1_ hb))
         go_roundg k2
         case measure=>have:=HK1.out;have:=HK2.out;omega
         case rel=>exact ⟨(wrap64 (x4_2 + 1)),(by first | rfl | (simp;done) | (simp [*];done)),H', ⟨by have:=HK1.out;have:=HK2.out;omega⟩,⟨by exact kZ_ BK213⟩,⟨by exact bZ_ HB⟩⟩
        ·replace c15:=Bool.eq_false_iff.mpr c15
         subst c15
         have H1 : (some false) = some r:=by rw [if_neg (show ¬ (false = true) by decide)] at H;exact H
         clear H
         have H:=H1
         clear H1
         obtain rfl:=Option.some.inj H
         have hcz18_0 : wr.cell? ⟨gb213,0,none⟩ = some (.string a0_0):=(kC_ BK213.out 0).trans rfl
         have hcz18_1 : wr.cell? ⟨gb213,1,none⟩ = some (.slice A0_1 l0_1.length c0_1):=(kC_ BK213.out 1).trans rfl
         have hcz18_2 : wr.cell? ⟨gb213,2,none⟩ = some (.slice A0_2 l0_2.length c0_2):=(kC_ BK213.out 2).trans rfl
         have hcz18_3 : wr.cell? ⟨gb213,3,none⟩ = some (.slice A0_3 l0_3.length c0_3):=(kC_ BK213.out 3).trans rfl
         have hfz18_0:=kF_ BK213.out 0
         have hfz18_1:=kF_ BK213.out 1
         have hfz18_2:=kF_ BK213.out 2
         have hfz18_3:=kF_ BK213.out 3
         have p216 : 0 ≤ (x4_2 : Int):=oT_ (by first | (with_reducible assumption) | assumption)
         have q216 : x4_2 < (l0_3.length : Int):=oT_ (by first | (with_reducible assumption) | assumption)
         obtain ⟨ad216,A216_2,c216_2,e216,hx216_0,hx216_1,hx216_2,hl216_2,hi216_2⟩:=at_T69 HR0_3.out x4_2 p216 q216
         cases e216
         replace hx216_0:=(HB.out.cell (wL_ w _ hx216_0)).trans hx216_0
         replace hx216_1:=(HB.out.cell (wL_ w _ hx216_1)).trans hx216_1
         replace hx216_2:=(HB.out.cell (wL_ w _ hx216_2)).trans hx216_2
         have HR216_2:=aM_ hi216_2
         have HC216_2:=aM_ hl216_2
         clear hi216_2 hl216_2
         replace p216:=eq_true p216
         replace q216:=eq_true q216
         go_wp2_with (first | ((with_reducible refine gate_callee (f:=107) rfl ?_);refine goesL_ (some 33) rfl rfl Tryd.func107 (by kernel_rfl) rfl #[.string ((rd_T69 l0_3 x4_2).f0)] rfl (by (try simp only [mA_,mC_,mN_]);first | done | rfl | (simp only [lD_,lT_];rfl)) ?_;(with_reducible refine (spec_l9Word.calls k2 ((rd_T69 l0_3 x4_2).f0) false _ A14.out).mono ?_);rintro e w19 ⟨rfl,hb⟩;refine ⟨_,rfl,?_⟩;have n0_:=aM_ (blk_below (g:=gb213) (o:=.cells #[.string a0_0,.slice A0_1 l0_1.length c0_1,.slice A0_2 l0_2.length c0_2,.slice (some ad216) l0_3.length c0_3] 35 (0,0)) (by exact kZ_ BK213) hb);have n1_:=aM_ (bT_ (by exact bZ_ HB) hb);clear BK213 HB;have BK213:=n0_;have HB:=n1_;clear n0_ n1_ hb))
         go_ret
         exact ⟨by first | rfl | (simp [errW_none,errW_some] <;> rfl) | (simp [*, errW_none,errW_some] <;> rfl),by exact bZ_ HB⟩
       ·rw [if_neg c13] at H
        exact absurd H (by simp)
      ·rw [if_neg c12] at H
       have c12b0 : decide (x4_2 < (l0_3.length : Int)) = false:=decide_eq_false c12
       clear c12
       replace H:=oB_ H
       obtain ⟨t218,A200,H⟩:=H
       replace H : (some t218) = some r:=H
       have A20:=aM_ A200
       clear A200
       obtain rfl:=Option.some.inj H
       have hcz21_0 : wr.cell? ⟨gb213,0,none⟩ = some (.string a0_0):=(kC_ BK213.out 0).trans rfl
       have hcz21_1 : wr.cell? ⟨gb213,1,none⟩ = some (.slice A0_1 l0_1.length c0_1):=(kC_ BK213.out 1).trans rfl
       have hcz21_2 : wr.cell? ⟨gb213,2,none⟩ = some (.slice A0_2 l0_2.length c0_2):=(kC_ BK213.out 2).trans rfl
       have hcz21_3 : wr.cell? ⟨gb213,3,none⟩ = some (.slice A0_3 l0_3.length c0_3):=(kC_ BK213.out 3).trans rfl
       have hfz21_0:=kF_ BK213.out 0
       have hfz21_1:=kF_ BK213.out 1
       have hfz21_2:=kF_ BK213.out 2
       have hfz21_3:=kF_ BK213.out 3
       go_wp2_with (first | ((with_reducible refine gate_callee (f:=107) rfl ?_);refine goesL_ (some 37) rfl rfl Tryd.func107 (by kernel_rfl) rfl #[.string a0_0] rfl (by (try simp only [mA_,mC_,mN_]);first | done | rfl | (simp only [lD_,lT_];rfl)) ?_;(with_reducible refine (spec_l9Word.calls k2 a0_0 t218 _ A20.out).mono ?_);rintro e w22 ⟨rfl,hb⟩;refine ⟨_,rfl,?_⟩;have n0_:=aM_ (blk_below (g:=gb213) (o:=.cells #[.string a0_0,.slice A0_1 l0_1.length c0_1,.slice A0_2 l0_2.length c0_2,.slice A0_3 l0_3.length c0_3] 35 (0,0)) (by exact kZ_ BK213) hb);have n1_:=aM_ (bT_ (by exact bZ_ HB) hb);clear BK213 HB;have BK213:=n0_;have HB:=n1_;clear n0_ n1_ hb))
       go_ret
       exact ⟨by first | rfl | (simp [errW_none,errW_some] <;> rfl) | (simp [*, errW_none,errW_some] <;> rfl),by exact bZ_ HB⟩
def spec_l9Types.l0 : Nat → Int → ByteArray → List (S82) → List (S85) → List (S69) → Option (Bool)
 | 0,_,_,_,_,_=>none
 | k + 1,x3,x220000,x220001,x220002,x220003=>if x3 < (x220001.length : Int) then (if 0 ≤ x3 then ((spec_l1In.f ((rd_T82 x220001 x3).f1) 1 4).bind fun t221=>(if t221 = true then (spec_l9Types.l0 k (wrap64 (x3 + 1)) x220000 x220001 x220002 x220003) else (some false))) else (none)) else ((spec_l1In.f (x220001.length : Int) 1 6).bind fun t222=>(some t222))
def spec_l9Types.f (k : Nat) (a0_0 : ByteArray) (l0_1 : List (S82)) (l0_2 : List (S85)) (l0_3 : List (S69)) : Option (Bool):=spec_l9Types.l0 k 0 a0_0 l0_1 l0_2 l0_3
theorem spec_l9Types.mono_l : ∀ k,(∀ y0 y1 y2 y3 y4,LeO (spec_l9Types.l0 k y0 y1 y2 y3 y4) (spec_l9Types.l0 (k + 1) y0 y1 y2 y3 y4))
 | 0=>fun _ _ _ _ _ r h=>by simp [spec_l9Types.l0] at h
 | k + 1=>by
  have ih0:=spec_l9Types.mono_l k
  ·intro y0 y1 y2 y3 y4
   unfold spec_l9Types.l0
   repeat' first
   | (with_reducible exact ih0 _ _ _ _ _)
   | (with_reducible exact LeO.refl _)
   | (with_reducible exact LeO.none _)
   | (with_reducible refine LeO.ite ?_ ?_)
   | (with_reducible refine LeO.bind ?_ (fun _=>?_))
   | exact ih0 _ _ _ _ _
   | exact LeO.none _
   | refine LeO.ite ?_ ?_
   | refine LeO.bind ?_ (fun _=>?_)
theorem spec_l9Types.mono : ∀ a0 a1 a2 a3 k,LeO (spec_l9Types.f k a0 a1 a2 a3) (spec_l9Types.f (k + 1) a0 a1 a2 a3):=by
 intro a0 a1 a2 a3 k
 have ih0:=spec_l9Types.mono_l k
 unfold spec_l9Types.f
 repeat' first
   | (with_reducible exact ih0 _ _ _ _ _)
   | (with_reducible exact LeO.refl _)
   | (with_reducible exact LeO.none _)
   | (with_reducible refine LeO.ite ?_ ?_)
   | (with_reducible refine LeO.bind ?_ (fun _=>?_))
   | exact ih0 _ _ _ _ _
   | exact LeO.none _
   | refine LeO.ite ?_ ?_
   | refine LeO.bind ?_ (fun _=>?_)
set_option maxHeartbeats 8000000 in
set_option maxRecDepth 100000 in
theorem spec_l9Types.calls (k : Nat) (a0_0 : ByteArray) (A0_1 : Option Addr) (c0_1 : Nat) (l0_1 : List (S82)) (A0_2 : Option Addr) (c0_2 : Nat) (l0_2 : List (S85)) (A0_3 : Option Addr) (c0_3 : Nat) (l0_3 : List (S69)) (r : Bool) (w : World) (hr0_1 : Kd.C k82 w A0_1 l0_1.length l0_1) (hc0_1 : l0_1.length ≤ c0_1) (hr0_2 : Kd.C k85 w A0_2 l0_2.length l0_2) (hc0_2 : l0_2.length ≤ c0_2) (hr0_3 : Kd.C k69 w A0_3 l0_3.length l0_3) (hc0_3 : l0_3.length ≤ c0_3) (h : spec_l9Types.f k a0_0 l0_1 l0_2 l0_3 = some r) :
  Calls Tryd.prog 61 #[.agg #[.string a0_0,.slice A0_1 l0_1.length c0_1,.slice A0_2 l0_2.length c0_2,.slice A0_3 l0_3.length c0_3]] w fun e w'=>e = .returned (.bool r) ∧ Below w.heap.size w w':=by
 have hu35:=Tryd.underlying35
 have HR0_1:=aM_ hr0_1
 have HC0_1:=aM_ hc0_1
 clear hr0_1 hc0_1
 have HR0_2:=aM_ hr0_2
 have HC0_2:=aM_ hc0_2
 clear hr0_2 hc0_2
 have HR0_3:=aM_ hr0_3
 have HC0_3:=aM_ hc0_3
 clear hr0_3 hc0_3
 have HB:=aM_ (Below.refl w.heap.size w)
 have H : (spec_l9Types.l0 k 0 a0_0 l0_1 l0_2 l0_3) = some r:=h
 clear h
 have H':=aM_ H
 clear H
 go_enter Tryd.func61,Tryd.ntmps61
 go_wp2_with (first | ((with_reducible refine gate_dst (N:=1) rfl ?_);refine box_event ?hg (N:=1) ?hd (cs:=#[.string a0_0,.slice A0_1 l0_1.length c0_1,.slice A0_2 l0_2.length c0_2,.slice A0_3 l0_3.length c0_3]) (t:=35) ?hr ?_;(case hd=>rfl);(case hg=>rfl);(case hr=>first | (go_simp;done) | (go_simp;rfl));intro gb219 hg w2 hbox hb;have n0_:=aM_ (bT_ (by exact bZ_ HB) hb);have n1_:=aM_ (hbox);have n2_:=aM_ ((by rw [hg];exact (bS_ (by exact bZ_ HB)) : w.heap.size ≤ gb219));have n3_:=aM_ ((by rw [hg];exact (bS_ (by exact bZ_ HB)) : w.heap.size ≤ gb219));clear HB;have HB:=n0_;have BK219:=n1_;have GW219:=n2_;have GE219:=n3_;clear n0_ n1_ n2_ n3_ hb hbox hg))
 (try simp only [Act.put,sI_,sS_,sZ_])
 go_loopg [3] k (fun kq v3 w'=>∃ (x3_1 : Int),v3 = .int .i64 x3_1 ∧ Aside0 (spec_l9Types.l0 kq x3_1 a0_0 l0_1 l0_2 l0_3 = some r) ∧ Aside0 (kq ≤ k) ∧ Aside0 (w'.heap[gb219]? = some (.cells #[.string a0_0,(.slice A0_1 l0_1.length c0_1),(.slice A0_2 l0_2.length c0_2),(.slice A0_3 l0_3.length c0_3)] 35 (0,0))) ∧ Aside0 (Below w.heap.size w w'))
 case atStart=>exact ⟨(0),(by first | rfl | (simp;done) | (simp [*];done)),H', ⟨Nat.le_refl _⟩,⟨by exact kZ_ BK219⟩,⟨by exact bZ_ HB⟩⟩
 case round =>
  clear H'
  obtain ⟨x3_1,rfl,HA,HK1,BK219,HB⟩:=hrel
  cases gk with
  | zero=>exact absurd HA.out (by simp [spec_l9Types.l0])
  | succ k1 =>
   have H:=HA.out
   clear HA
   simp only [spec_l9Types.l0] at H
   by_cases c3 : x3_1 < (l0_1.length : Int)
   ·rw [if_pos c3] at H
    have c3b0 : decide (x3_1 < (l0_1.length : Int)) = true:=decide_eq_true c3
    clear c3
    by_cases c4 : 0 ≤ x3_1
    ·rw [if_pos c4] at H
     have c4b0 : decide (0 ≤ x3_1) = true:=decide_eq_true c4
     clear c4
     replace H:=oB_ H
     obtain ⟨t221,A50,H⟩:=H
     replace H : (if t221 = true then (spec_l9Types.l0 k1 (wrap64 (x3_1 + 1)) a0_0 l0_1 l0_2 l0_3) else (some false)) = some r:=H
     have A5:=aM_ A50
     clear A50
     by_cases c6 : t221 = true
     ·subst c6
      have H1 : (spec_l9Types.l0 k1 (wrap64 (x3_1 + 1)) a0_0 l0_1 l0_2 l0_3) = some r:=by rw [if_pos rfl] at H;exact H
      clear H
      have H:=H1
      clear H1
      have H':=aM_ H
      clear H
      have hcz7_0 : wr.cell? ⟨gb219,0,none⟩ = some (.string a0_0):=(kC_ BK219.out 0).trans rfl
      have hcz7_1 : wr.cell? ⟨gb219,1,none⟩ = some (.slice A0_1 l0_1.length c0_1):=(kC_ BK219.out 1).trans rfl
      have hcz7_2 : wr.cell? ⟨gb219,2,none⟩ = some (.slice A0_2 l0_2.length c0_2):=(kC_ BK219.out 2).trans rfl
      have hcz7_3 : wr.cell? ⟨gb219,3,none⟩ = some (.slice A0_3 l0_3.length c0_3):=(kC_ BK219.out 3).trans rfl
      have hfz7_0:=kF_ BK219.out 0
      have hfz7_1:=kF_ BK219.out 1
      have hfz7_2:=kF_ BK219.out 2
      have hfz7_3:=kF_ BK219.out 3
      have p220 : 0 ≤ (x3_1 : Int):=oT_ (by first | (with_reducible assumption) | assumption)
      have q220 : x3_1 < (l0_1.length : Int):=oT_ (by first | (with_reducible assumption) | assumption)
      obtain ⟨ad220,e220,hx220_0,hx220_1,hx220_2⟩:=at_T82 HR0_1.out x3_1 p220 q220
      cases e220
      replace hx220_0:=(HB.out.cell (wL_ w _ hx220_0)).trans hx220_0
      replace hx220_1:=(HB.out.cell (wL_ w _ hx220_1)).trans hx220_1
      replace hx220_2:=(HB.out.cell (wL_ w _ hx220_2)).trans hx220_2
      replace p220:=eq_true p220
      replace q220:=eq_true q220
      go_wp2_with (first | ((with_reducible refine gate_callee (f:=101) rfl ?_);refine goesL_ (some 17) rfl rfl Tryd.func101 (by kernel_rfl) rfl #[.int .i64 ((rd_T82 l0_1 x3_1).f1),.int .i64 1,.int .i64 4] rfl (by (try simp only [mA_,mC_,mN_]);first | done | rfl | (simp only [lD_,lT_];rfl)) ?_;(with_reducible refine (spec_l1In.calls ((rd_T82 l0_1 x3_1).f1) 1 4 true _ A5.out).mono ?_);rintro e w' ⟨rfl,⟨nd,rfl⟩⟩;refine ⟨_,rfl,?_⟩))
      go_roundg k1
      case measure=>have:=HK1.out;omega
      case rel=>exact ⟨(wrap64 (x3_1 + 1)),(by first | rfl | (simp;done) | (simp [*];done)),H', ⟨by have:=HK1.out;omega⟩,⟨by exact kZ_ BK219⟩,⟨by exact bZ_ HB⟩⟩
     ·replace c6:=Bool.eq_false_iff.mpr c6
      subst c6
      have H1 : (some false) = some r:=by rw [if_neg (show ¬ (false = true) by decide)] at H;exact H
      clear H
      have H:=H1
      clear H1
      obtain rfl:=Option.some.inj H
      have hcz8_0 : wr.cell? ⟨gb219,0,none⟩ = some (.string a0_0):=(kC_ BK219.out 0).trans rfl
      have hcz8_1 : wr.cell? ⟨gb219,1,none⟩ = some (.slice A0_1 l0_1.length c0_1):=(kC_ BK219.out 1).trans rfl
      have hcz8_2 : wr.cell? ⟨gb219,2,none⟩ = some (.slice A0_2 l0_2.length c0_2):=(kC_ BK219.out 2).trans rfl
      have hcz8_3 : wr.cell? ⟨gb219,3,none⟩ = some (.slice A0_3 l0_3.length c0_3):=(kC_ BK219.out 3).trans rfl
      have hfz8_0:=kF_ BK219.out 0
      have hfz8_1:=kF_ BK219.out 1
      have hfz8_2:=kF_ BK219.out 2
      have hfz8_3:=kF_ BK219.out 3
      have p220 : 0 ≤ (x3_1 : Int):=oT_ (by first | (with_reducible assumption) | assumption)
      have q220 : x3_1 < (l0_1.length : Int):=oT_ (by first | (with_reducible assumption) | assumption)
      obtain ⟨ad220,e220,hx220_0,hx220_1,hx220_2⟩:=at_T82 HR0_1.out x3_1 p220 q220
      cases e220
      replace hx220_0:=(HB.out.cell (wL_ w _ hx220_0)).trans hx220_0
      replace hx220_1:=(HB.out.cell (wL_ w _ hx220_1)).trans hx220_1
      replace hx220_2:=(HB.out.cell (wL_ w _ hx220_2)).trans hx220_2
      replace p220:=eq_true p220
      replace q220:=eq_true q220
      go_wp2_with (first | ((with_reducible refine gate_callee (f:=101) rfl ?_);refine goesL_ (some 17) rfl rfl Tryd.func101 (by kernel_rfl) rfl #[.int .i64 ((rd_T82 l0_1 x3_1).f1),.int .i64 1,.int .i64 4] rfl (by (try simp only [mA_,mC_,mN_]);first | done | rfl | (simp only [lD_,lT_];rfl)) ?_;(with_reducible refine (spec_l1In.calls ((rd_T82 l0_1 x3_1).f1) 1 4 false _ A5.out).mono ?_);rintro e w' ⟨rfl,⟨nd,rfl⟩⟩;refine ⟨_,rfl,?_⟩))
      go_ret
      exact ⟨by first | rfl | (simp [errW_none,errW_some] <;> rfl) | (simp [*, errW_none,errW_some] <;> rfl),by exact bZ_ HB⟩
    ·rw [if_neg c4] at H
     exact absurd H (by simp)
   ·rw [if_neg c3] at H
    have c3b0 : decide (x3_1 < (l0_1.length : Int)) = false:=decide_eq_false c3
    clear c3
    replace H:=oB_ H
    obtain ⟨t222,A90,H⟩:=H
    replace H : (some t222) = some r:=H
    have A9:=aM_ A90
    clear A90
    obtain rfl:=Option.some.inj H
    have hcz10_0 : wr.cell? ⟨gb219,0,none⟩ = some (.string a0_0):=(kC_ BK219.out 0).trans rfl
    have hcz10_1 : wr.cell? ⟨gb219,1,none⟩ = some (.slice A0_1 l0_1.length c0_1):=(kC_ BK219.out 1).trans rfl
    have hcz10_2 : wr.cell? ⟨gb219,2,none⟩ = some (.slice A0_2 l0_2.length c0_2):=(kC_ BK219.out 2).trans rfl
    have hcz10_3 : wr.cell? ⟨gb219,3,none⟩ = some (.slice A0_3 l0_3.length c0_3):=(kC_ BK219.out 3).trans rfl
    have hfz10_0:=kF_ BK219.out 0
    have hfz10_1:=kF_ BK219.out 1
    have hfz10_2:=kF_ BK219.out 2
    have hfz10_3:=kF_ BK219.out 3
    go_wp2_with (first | ((with_reducible refine gate_callee (f:=101) rfl ?_);refine goesL_ (some 22) rfl rfl Tryd.func101 (by kernel_rfl) rfl #[.int .i64 (l0_1.length : Int),.int .i64 1,.int .i64 6] rfl (by (try simp only [mA_,mC_,mN_]);first | done | rfl | (simp only [lD_,lT_];rfl)) ?_;(with_reducible refine (spec_l1In.calls (l0_1.length : Int) 1 6 t222 _ A9.out).mono ?_);rintro e w' ⟨rfl,⟨nd,rfl⟩⟩;refine ⟨_,rfl,?_⟩))
    go_ret
    exact ⟨by first | rfl | (simp [errW_none,errW_some] <;> rfl) | (simp [*, errW_none,errW_some] <;> rfl),by exact bZ_ HB⟩
def spec_l9Col.l0 : Nat → ByteArray → Int → ByteArray → List (S82) → List (S85) → List (S69) → Option (Int)
 | 0,_,_,_,_,_,_=>none
 | k + 1,x1,x5,x224000,x224001,x224002,x224003=>if x5 < (x224001.length : Int) then (if 0 ≤ x5 then (if ((rd_T82 x224001 x5).f0).toList = x1.toList then (some x5) else (spec_l9Col.l0 k x1 (wrap64 (x5 + 1)) x224000 x224001 x224002 x224003)) else (none)) else (some (-1))
def spec_l9Col.f (k : Nat) (a0_0 : ByteArray) (l0_1 : List (S82)) (l0_2 : List (S85)) (l0_3 : List (S69)) (a1 : ByteArray) : Option (Int):=spec_l9Col.l0 k a1 0 a0_0 l0_1 l0_2 l0_3
theorem spec_l9Col.mono_l : ∀ k,(∀ y0 y1 y2 y3 y4 y5,LeO (spec_l9Col.l0 k y0 y1 y2 y3 y4 y5) (spec_l9Col.l0 (k + 1) y0 y1 y2 y3 y4 y5))
 | 0=>fun _ _ _ _ _ _ r h=>by simp [spec_l9Col.l0] at h
 | k + 1=>by
  have ih0:=spec_l9Col.mono_l k
  ·intro y0 y1 y2 y3 y4 y5
   unfold spec_l9Col.l0
   repeat' first
   | (with_reducible exact ih0 _ _ _ _ _ _)
   | (with_reducible exact LeO.refl _)
   | (with_reducible exact LeO.none _)
   | (with_reducible refine LeO.ite ?_ ?_)
   | (with_reducible refine LeO.bind ?_ (fun _=>?_))
   | exact ih0 _ _ _ _ _ _
   | exact LeO.none _
   | refine LeO.ite ?_ ?_
   | refine LeO.bind ?_ (fun _=>?_)
theorem spec_l9Col.mono : ∀ a0 a1 a2 a3 a4 k,LeO (spec_l9Col.f k a0 a1 a2 a3 a4) (spec_l9Col.f (k + 1) a0 a1 a2 a3 a4):=by
 intro a0 a1 a2 a3 a4 k
 have ih0:=spec_l9Col.mono_l k
 unfold spec_l9Col.f
 repeat' first
   | (with_reducible exact ih0 _ _ _ _ _ _)
   | (with_reducible exact LeO.refl _)
   | (with_reducible exact LeO.none _)
   | (with_reducible refine LeO.ite ?_ ?_)
   | (with_reducible refine LeO.bind ?_ (fun _=>?_))
   | exact ih0 _ _ _ _ _ _
   | exact LeO.none _
   | refine LeO.ite ?_ ?_
   | refine LeO.bind ?_ (fun _=>?_)
set_option maxHeartbeats 8000000 in
set_option maxRecDepth 100000 in
theorem spec_l9Col.calls (k : Nat) (a0_0 : ByteArray) (A0_1 : Option Addr) (c0_1 : Nat) (l0_1 : List (S82)) (A0_2 : Option Addr) (c0_2 : Nat) (l0_2 : List (S85)) (A0_3 : Option Addr) (c0_3 : Nat) (l0_3 : List (S69)) (a1 : ByteArray) (r : Int) (w : World) (hr0_1 : Kd.C k82 w A0_1 l0_1.length l0_1) (hc0_1 : l0_1.length ≤ c0_1) (hr0_2 : Kd.C k85 w A0_2 l0_2.length l0_2) (hc0_2 : l0_2.length ≤ c0_2) (hr0_3 : Kd.C k69 w A0_3 l0_3.length l0_3) (hc0_3 : l0_3.length ≤ c0_3) (h : spec_l9Col.f k a0_0 l0_1 l0_2 l0_3 a1 = some r) :
  Calls Tryd.prog 108 #[.agg #[.string a0_0,.slice A0_1 l0_1.length c0_1,.slice A0_2 l0_2.length c0_2,.slice A0_3 l0_3.length c0_3],.string a1] w fun e w'=>e = .returned (.int .i64 r) ∧ Below w.heap.size w w':=by
 have hu35:=Tryd.underlying35
 have HR0_1:=aM_ hr0_1
 have HC0_1:=aM_ hc0_1
 clear hr0_1 hc0_1
 have HR0_2:=aM_ hr0_2
 have HC0_2:=aM_ hc0_2
 clear hr0_2 hc0_2
 have HR0_3:=aM_ hr0_3
 have HC0_3:=aM_ hc0_3
 clear hr0_3 hc0_3
 have HB:=aM_ (Below.refl w.heap.size w)
 have H : (spec_l9Col.l0 k a1 0 a0_0 l0_1 l0_2 l0_3) = some r:=h
 clear h
 have H':=aM_ H
 clear H
 go_enter Tryd.func108,Tryd.ntmps108
 go_wp2_with (first | ((with_reducible refine gate_dst (N:=2) rfl ?_);refine box_event ?hg (N:=2) ?hd (cs:=#[.string a0_0,.slice A0_1 l0_1.length c0_1,.slice A0_2 l0_2.length c0_2,.slice A0_3 l0_3.length c0_3]) (t:=35) ?hr ?_;(case hd=>rfl);(case hg=>rfl);(case hr=>first | (go_simp;done) | (go_simp;rfl));intro gb223 hg w3 hbox hb;have n0_:=aM_ (bT_ (by exact bZ_ HB) hb);have n1_:=aM_ (hbox);have n2_:=aM_ ((by rw [hg];exact (bS_ (by exact bZ_ HB)) : w.heap.size ≤ gb223));have n3_:=aM_ ((by rw [hg];exact (bS_ (by exact bZ_ HB)) : w.heap.size ≤ gb223));clear HB;have HB:=n0_;have BK223:=n1_;have GW223:=n2_;have GE223:=n3_;clear n0_ n1_ n2_ n3_ hb hbox hg))
 (try simp only [Act.put,sI_,sS_,sZ_])
 go_loopg [5] k (fun kq v5 w'=>∃ (x5_1 : Int),v5 = .int .i64 x5_1 ∧ Aside0 (spec_l9Col.l0 kq a1 x5_1 a0_0 l0_1 l0_2 l0_3 = some r) ∧ Aside0 (kq ≤ k) ∧ Aside0 (w'.heap[gb223]? = some (.cells #[.string a0_0,(.slice A0_1 l0_1.length c0_1),(.slice A0_2 l0_2.length c0_2),(.slice A0_3 l0_3.length c0_3)] 35 (0,0))) ∧ Aside0 (Below w.heap.size w w'))
 case atStart=>exact ⟨(0),(by first | rfl | (simp;done) | (simp [*];done)),H', ⟨Nat.le_refl _⟩,⟨by exact kZ_ BK223⟩,⟨by exact bZ_ HB⟩⟩
 case round =>
  clear H'
  obtain ⟨x5_1,rfl,HA,HK1,BK223,HB⟩:=hrel
  cases gk with
  | zero=>exact absurd HA.out (by simp [spec_l9Col.l0])
  | succ k1 =>
   have H:=HA.out
   clear HA
   simp only [spec_l9Col.l0] at H
   by_cases c4 : x5_1 < (l0_1.length : Int)
   ·rw [if_pos c4] at H
    have c4b0 : decide (x5_1 < (l0_1.length : Int)) = true:=decide_eq_true c4
    clear c4
    by_cases c5 : 0 ≤ x5_1
    ·rw [if_pos c5] at H
     have c5b0 : decide (0 ≤ x5_1) = true:=decide_eq_true c5
     clear c5
     by_cases c6 : ((rd_T82 l0_1 x5_1).f0).toList = a1.toList
     ·rw [if_pos c6] at H
      have c6b0 : (((rd_T82 l0_1 x5_1).f0).toList == a1.toList) = true:=beq_iff_eq.mpr c6
      have c6b1 : (((rd_T82 l0_1 x5_1).f0).toList != a1.toList) = false:=bne_eq_false_iff_eq.mpr c6
      clear c6
      obtain rfl:=Option.some.inj H
      have hcz7_0 : wr.cell? ⟨gb223,0,none⟩ = some (.string a0_0):=(kC_ BK223.out 0).trans rfl
      have hcz7_1 : wr.cell? ⟨gb223,1,none⟩ = some (.slice A0_1 l0_1.length c0_1):=(kC_ BK223.out 1).trans rfl
      have hcz7_2 : wr.cell? ⟨gb223,2,none⟩ = some (.slice A0_2 l0_2.length c0_2):=(kC_ BK223.out 2).trans rfl
      have hcz7_3 : wr.cell? ⟨gb223,3,none⟩ = some (.slice A0_3 l0_3.length c0_3):=(kC_ BK223.out 3).trans rfl
      have hfz7_0:=kF_ BK223.out 0
      have hfz7_1:=kF_ BK223.out 1
      have hfz7_2:=kF_ BK223.out 2
      have hfz7_3:=kF_ BK223.out 3
      have p224 : 0 ≤ (x5_1 : Int):=oT_ (by first | (with_reducible assumption) | assumption)
      have q224 : x5_1 < (l0_1.length : Int):=oT_ (by first | (with_reducible assumption) | assumption)
      obtain ⟨ad224,e224,hx224_0,hx224_1,hx224_2⟩:=at_T82 HR0_1.out x5_1 p224 q224
      cases e224
      replace hx224_0:=(HB.out.cell (wL_ w _ hx224_0)).trans hx224_0
      replace hx224_1:=(HB.out.cell (wL_ w _ hx224_1)).trans hx224_1
      replace hx224_2:=(HB.out.cell (wL_ w _ hx224_2)).trans hx224_2
      replace p224:=eq_true p224
      replace q224:=eq_true q224
      go_wp2
      go_ret
      exact ⟨by first | rfl | (simp [errW_none,errW_some] <;> rfl) | (simp [*, errW_none,errW_some] <;> rfl),by exact bZ_ HB⟩
     ·rw [if_neg c6] at H
      have c6b0 : (((rd_T82 l0_1 x5_1).f0).toList == a1.toList) = false:=beq_eq_false_iff_ne.mpr c6
      have c6b1 : (((rd_T82 l0_1 x5_1).f0).toList != a1.toList) = true:=bne_iff_ne.mpr c6
      have H':=aM_ H
      clear H
      have hcz8_0 : wr.cell? ⟨gb223,0,none⟩ = some (.string a0_0):=(kC_ BK223.out 0).trans rfl
      have hcz8_1 : wr.cell? ⟨gb223,1,none⟩ = some (.slice A0_1 l0_1.length c0_1):=(kC_ BK223.out 1).trans rfl
      have hcz8_2 : wr.cell? ⟨gb223,2,none⟩ = some (.slice A0_2 l0_2.length c0_2):=(kC_ BK223.out 2).trans rfl
      have hcz8_3 : wr.cell? ⟨gb223,3,none⟩ = some (.slice A0_3 l0_3.length c0_3):=(kC_ BK223.out 3).trans rfl
      have hfz8_0:=kF_ BK223.out 0
      have hfz8_1:=kF_ BK223.out 1
      have hfz8_2:=kF_ BK223.out 2
      have hfz8_3:=kF_ BK223.out 3
      have p224 : 0 ≤ (x5_1 : Int):=oT_ (by first | (with_reducible assumption) | assumption)
      have q224 : x5_1 < (l0_1.length : Int):=oT_ (by first | (with_reducible assumption) | assumption)
      obtain ⟨ad224,e224,hx224_0,hx224_1,hx224_2⟩:=at_T82 HR0_1.out x5_1 p224 q224
      cases e224
      replace hx224_0:=(HB.out.cell (wL_ w _ hx224_0)).trans hx224_0
      replace hx224_1:=(HB.out.cell (wL_ w _ hx224_1)).trans hx224_1
      replace hx224_2:=(HB.out.cell (wL_ w _ hx224_2)).trans hx224_2
      replace p224:=eq_true p224
      replace q224:=eq_true q224
      go_wp2
      go_roundg k1
      case measure=>have:=HK1.out;omega
      case rel=>exact ⟨(wrap64 (x5_1 + 1)),(by first | rfl | (simp;done) | (simp [*];done)),H', ⟨by have:=HK1.out;omega⟩,⟨by exact kZ_ BK223⟩,⟨by exact bZ_ HB⟩⟩
    ·rw [if_neg c5] at H
     exact absurd H (by simp)
   ·rw [if_neg c4] at H
    have c4b0 : decide (x5_1 < (l0_1.length : Int)) = false:=decide_eq_false c4
    clear c4
    obtain rfl:=Option.some.inj H
    have hcz9_0 : wr.cell? ⟨gb223,0,none⟩ = some (.string a0_0):=(kC_ BK223.out 0).trans rfl
    have hcz9_1 : wr.cell? ⟨gb223,1,none⟩ = some (.slice A0_1 l0_1.length c0_1):=(kC_ BK223.out 1).trans rfl
    have hcz9_2 : wr.cell? ⟨gb223,2,none⟩ = some (.slice A0_2 l0_2.length c0_2):=(kC_ BK223.out 2).trans rfl
    have hcz9_3 : wr.cell? ⟨gb223,3,none⟩ = some (.slice A0_3 l0_3.length c0_3):=(kC_ BK223.out 3).trans rfl
    have hfz9_0:=kF_ BK223.out 0
    have hfz9_1:=kF_ BK223.out 1
    have hfz9_2:=kF_ BK223.out 2
    have hfz9_3:=kF_ BK223.out 3
    go_wp2
    go_ret
    exact ⟨by first | rfl | (simp [errW_none,errW_some] <;> rfl) | (simp [*, errW_none,errW_some] <;> rfl),by exact bZ_ HB⟩
end Go.Proofs.YtipehkeabnfngaaDoor.PFnExactDefsText
