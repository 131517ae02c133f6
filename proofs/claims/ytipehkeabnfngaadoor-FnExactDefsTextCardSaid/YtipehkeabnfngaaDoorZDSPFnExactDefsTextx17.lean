import Derived.Test.YtipehkeabnfngaaDoorZDSPFnExactDefsTextx0
import Derived.Test.YtipehkeabnfngaaDoorZDSPFnExactDefsTextx1
import Derived.Test.YtipehkeabnfngaaDoorZDSPFnExactDefsTextx2
import Derived.Test.YtipehkeabnfngaaDoorZDSPFnExactDefsTextx5
import Derived.Test.YtipehkeabnfngaaDoorZDSPFnExactDefsTextx11
import Derived.Test.YtipehkeabnfngaaDoorZDSPFnExactDefsTextx16
namespace Go.Proofs.YtipehkeabnfngaaDoor.PFnExactDefsText
open Go.RowKit Go.Proofs.YtipehkeabnfngaaDoorW.PrintWords Go.Proofs.YtipehkeabnfngaaDoorW.PrintLast Go.Proofs.YtipehkeabnfngaaDoorW.PrintMore Go.Proofs.YtipehkeabnfngaaDoor.Xtra
attribute [local go_sem] max2_int min2_int max_two min_two max_three min_three max_four min_four str_leq str_gtr str_geq setCell_drewN cell_set2 cell_set3   -- for this text's walks alone
set_option linter.unusedVariables false
set_option linter.unusedSimpArgs false
def impl_DefsText.l0 : Nat → ByteArray → List (S35) → Int → Int → Option (ByteArray)
 | 0,_,_,_,_=>none
 | k + 1,x3,x6,x7,x8=>if x8 < x7 then (if 0 ≤ x8 then (if x8 < (x6.length : Int) then ((impl_DefText.f k ((rd_T35 x6 x8).f0) ((rd_T35 x6 x8).f1) ((rd_T35 x6 x8).f2) ((rd_T35 x6 x8).f3)).bind fun t358=>(if t358.size + 1 ≤ 9223372036854775807 then (if x3.size + (t358 ++ (⟨#[10]⟩ : ByteArray)).size ≤ 9223372036854775807 then (impl_DefsText.l0 k (x3 ++ (t358 ++ (⟨#[10]⟩ : ByteArray))) x6 x7 (wrap64 (x8 + 1))) else (none)) else (none))) else (none)) else (none)) else (some x3)
def impl_DefsText.f (k : Nat) (l0 : List (S35)) : Option (ByteArray):=impl_DefsText.l0 k (⟨#[]⟩ : ByteArray) l0 (l0.length : Int) 0
theorem impl_DefsText.mono_l : ∀ k,(∀ y0 y1 y2 y3,LeO (impl_DefsText.l0 k y0 y1 y2 y3) (impl_DefsText.l0 (k + 1) y0 y1 y2 y3))
 | 0=>fun _ _ _ _ r h=>by simp [impl_DefsText.l0] at h
 | k + 1=>by
  have ih0:=impl_DefsText.mono_l k
  ·intro y0 y1 y2 y3
   unfold impl_DefsText.l0
   repeat' first
   | (with_reducible exact ih0 _ _ _ _)
   | (with_reducible exact impl_DefText.mono _ _ _ _ _)
   | (with_reducible exact LeO.refl _)
   | (with_reducible exact LeO.none _)
   | (with_reducible refine LeO.ite ?_ ?_)
   | (with_reducible refine LeO.bind ?_ (fun _=>?_))
   | exact ih0 _ _ _ _
   | exact impl_DefText.mono _ _ _ _ _
   | exact LeO.none _
   | refine LeO.ite ?_ ?_
   | refine LeO.bind ?_ (fun _=>?_)
theorem impl_DefsText.mono : ∀ a0 k,LeO (impl_DefsText.f k a0) (impl_DefsText.f (k + 1) a0):=by
 intro a0 k
 have ih0:=impl_DefsText.mono_l k
 unfold impl_DefsText.f
 repeat' first
   | (with_reducible exact ih0 _ _ _ _)
   | (with_reducible exact impl_DefText.mono _ _ _ _ _)
   | (with_reducible exact LeO.refl _)
   | (with_reducible exact LeO.none _)
   | (with_reducible refine LeO.ite ?_ ?_)
   | (with_reducible refine LeO.bind ?_ (fun _=>?_))
   | exact ih0 _ _ _ _
   | exact impl_DefText.mono _ _ _ _ _
   | exact LeO.none _
   | refine LeO.ite ?_ ?_
   | refine LeO.bind ?_ (fun _=>?_)
set_option maxHeartbeats 8000000 in
set_option maxRecDepth 100000 in
theorem impl_DefsText.calls (k : Nat) (A0 : Option Addr) (c0 : Nat) (l0 : List (S35)) (r : ByteArray) (w : World) (hr0 : Kd.C k35 w A0 l0.length l0) (hc0 : l0.length ≤ c0) (h : impl_DefsText.f k l0 = some r) :
  Calls Tryd.prog 32 #[.slice A0 l0.length c0] w fun e w'=>e = .returned (.string r) ∧ Below w.heap.size w w':=by
 have hu35:=Tryd.underlying35
 have HR0:=aM_ hr0
 have HC0:=aM_ hc0
 clear hr0 hc0
 have HB:=aM_ (Below.refl w.heap.size w)
 have H : (impl_DefsText.l0 k (⟨#[]⟩ : ByteArray) l0 (l0.length : Int) 0) = some r:=h
 clear h
 have H':=aM_ H
 clear H
 go_enter Tryd.func32,Tryd.ntmps32
 go_wp2
 (try simp only [Act.put,sI_,sS_,sZ_])
 go_loopg [3,8] k (fun kq v3 v8 w'=>∃ (x3_1 : ByteArray) (x8_1 : Int),v3 = .string x3_1 ∧ v8 = .int .i64 x8_1 ∧ Aside0 (impl_DefsText.l0 kq x3_1 l0 (l0.length : Int) x8_1 = some r) ∧ Aside0 (kq ≤ k) ∧ Aside0 (Below w.heap.size w w'))
 case atStart=>exact ⟨((⟨#[]⟩ : ByteArray)),(0),(by first | rfl | (simp;done) | (simp [*];done)),(by first | rfl | (simp;done) | (simp [*];done)),H', ⟨Nat.le_refl _⟩,⟨by exact bZ_ HB⟩⟩
 case round =>
  clear H'
  obtain ⟨x3_1,x8_1,rfl,rfl,HA,HK1,HB⟩:=hrel
  cases gk with
  | zero=>exact absurd HA.out (by simp [impl_DefsText.l0])
  | succ k1 =>
   have H:=HA.out
   clear HA
   simp only [impl_DefsText.l0] at H
   by_cases c2 : x8_1 < (l0.length : Int)
   ·rw [if_pos c2] at H
    have c2b0 : decide (x8_1 < (l0.length : Int)) = true:=decide_eq_true c2
    clear c2
    by_cases c3 : 0 ≤ x8_1
    ·rw [if_pos c3] at H
     have c3b0 : decide (0 ≤ x8_1) = true:=decide_eq_true c3
     clear c3
     by_cases c4 : x8_1 < (l0.length : Int)
     ·rw [if_pos c4] at H
      have c4b0 : decide (x8_1 < (l0.length : Int)) = true:=decide_eq_true c4
      clear c4
      replace H:=oB_ H
      obtain ⟨t358,A50,H⟩:=H
      replace H : (if t358.size + 1 ≤ 9223372036854775807 then (if x3_1.size + (t358 ++ (⟨#[10]⟩ : ByteArray)).size ≤ 9223372036854775807 then (impl_DefsText.l0 k1 (x3_1 ++ (t358 ++ (⟨#[10]⟩ : ByteArray))) l0 (l0.length : Int) (wrap64 (x8_1 + 1))) else (none)) else (none)) = some r:=H
      have A5:=aM_ A50
      clear A50
      by_cases c6 : t358.size + 1 ≤ 9223372036854775807
      ·rw [if_pos c6] at H
       have c6b0:=eq_true c6
       have c6b1 : decide (t358.size + 1 ≤ 9223372036854775807) = true:=decide_eq_true c6
       try have c6b2 : (9223372036854775807 < t358.size + 1) = False:=eq_false (Nat.not_lt.2 c6)
       by_cases c7 : x3_1.size + (t358 ++ (⟨#[10]⟩ : ByteArray)).size ≤ 9223372036854775807
       ·rw [if_pos c7] at H
        have c7b0:=eq_true c7
        have c7b1 : decide (x3_1.size + (t358 ++ (⟨#[10]⟩ : ByteArray)).size ≤ 9223372036854775807) = true:=decide_eq_true c7
        try have c7b2 : (9223372036854775807 < x3_1.size + (t358 ++ (⟨#[10]⟩ : ByteArray)).size) = False:=eq_false (Nat.not_lt.2 c7)
        have c7b3:=eq_false (Nat.not_lt.2 c7);(repeat rw [ByteArray.size_append] at c7b3);(try rw [show (⟨#[10]⟩ : ByteArray).size = 1 from rfl] at c7b3)
        have H':=aM_ H
        clear H
        have p356 : 0 ≤ (x8_1 : Int):=oT_ (by first | (with_reducible assumption) | assumption)
        have q356 : x8_1 < (l0.length : Int):=oT_ (by first | (with_reducible assumption) | assumption)
        obtain ⟨ad356,A356_1,c356_1,A356_2,c356_2,A356_3,c356_3,e356,hx356_0,hx356_1,hx356_2,hx356_3,hl356_1,hi356_1,hl356_2,hi356_2,hl356_3,hi356_3⟩:=at_T35 HR0.out x8_1 p356 q356
        cases e356
        replace hx356_0:=(HB.out.cell (wL_ w _ hx356_0)).trans hx356_0
        replace hx356_1:=(HB.out.cell (wL_ w _ hx356_1)).trans hx356_1
        replace hx356_2:=(HB.out.cell (wL_ w _ hx356_2)).trans hx356_2
        replace hx356_3:=(HB.out.cell (wL_ w _ hx356_3)).trans hx356_3
        have HR356_1:=aM_ hi356_1
        have HC356_1:=aM_ hl356_1
        clear hi356_1 hl356_1
        have HR356_2:=aM_ hi356_2
        have HC356_2:=aM_ hl356_2
        clear hi356_2 hl356_2
        have HR356_3:=aM_ hi356_3
        have HC356_3:=aM_ hl356_3
        clear hi356_3 hl356_3
        replace p356:=eq_true p356
        replace q356:=eq_true q356
        go_wp2_with (first | ((with_reducible refine gate_dst (N:=5) rfl ?_);refine box_event ?hg (N:=5) ?hd (cs:=#[.string (⟨#[]⟩ : ByteArray),.slice none 0 0,.slice none 0 0,.slice none 0 0]) (t:=35) ?hr ?_;(case hd=>rfl);(case hg=>rfl);(case hr=>first | (go_simp;done) | (go_simp;rfl));intro gb357 hg w8 hbox hb;have n0_:=aM_ (bT_ (by exact bZ_ HB) hb);have n1_:=aM_ (hbox);have n2_:=aM_ ((by rw [hg];exact (bS_ (by exact bZ_ HB)) : w.heap.size ≤ gb357));have n3_:=aM_ ((by rw [hg];exact (bS_ (by exact bZ_ HB)) : w.heap.size ≤ gb357));clear HB;have HB:=n0_;have BK357:=n1_;have GW357:=n2_;have GE357:=n3_;clear n0_ n1_ n2_ n3_ hb hbox hg;have hcz9_0 : w8.cell? ⟨gb357,0,none⟩ = some (.string (⟨#[]⟩ : ByteArray)):=(kC_ BK357.out 0).trans rfl;have hcz9_1 : w8.cell? ⟨gb357,1,none⟩ = some (.slice none 0 0):=(kC_ BK357.out 1).trans rfl;have hcz9_2 : w8.cell? ⟨gb357,2,none⟩ = some (.slice none 0 0):=(kC_ BK357.out 2).trans rfl;have hcz9_3 : w8.cell? ⟨gb357,3,none⟩ = some (.slice none 0 0):=(kC_ BK357.out 3).trans rfl;have hfz9_0:=kF_ BK357.out 0;have hfz9_1:=kF_ BK357.out 1;have hfz9_2:=kF_ BK357.out 2;have hfz9_3:=kF_ BK357.out 3) | ((with_reducible refine gate_callee (f:=24) rfl ?_);refine goesL_ (some 14) rfl rfl Tryd.func24 (by kernel_rfl) rfl #[.agg #[.string ((rd_T35 l0 x8_1).f0),.slice A356_1 ((rd_T35 l0 x8_1).f1).length c356_1,.slice A356_2 ((rd_T35 l0 x8_1).f2).length c356_2,.slice A356_3 ((rd_T35 l0 x8_1).f3).length c356_3]] rfl (by (try simp only [mA_,mC_,mN_]);first | done | rfl | (simp only [lD_,lT_];rfl)) ?_;(with_reducible refine (impl_DefText.calls k1 ((rd_T35 l0 x8_1).f0) _ _ ((rd_T35 l0 x8_1).f1) _ _ ((rd_T35 l0 x8_1).f2) _ _ ((rd_T35 l0 x8_1).f3) t358 _ ?side1 ?side2 ?side3 ?side4 ?side5 ?side6 A5.out).mono ?_);(case side1=>exact Kd.C_below HR356_1.out (by exact bZ_ HB));(case side2=>exact HC356_1.out);(case side3=>exact Kd.C_below HR356_2.out (by exact bZ_ HB));(case side4=>exact HC356_2.out);(case side5=>exact Kd.C_below HR356_3.out (by exact bZ_ HB));(case side6=>exact HC356_3.out);rintro e w10 ⟨rfl,hb⟩;refine ⟨_,rfl,?_⟩;have n0_:=aM_ (blk_below (g:=gb357) (o:=.cells #[.string ((rd_T35 l0 x8_1).f0),.slice A356_1 ((rd_T35 l0 x8_1).f1).length c356_1,.slice A356_2 ((rd_T35 l0 x8_1).f2).length c356_2,.slice A356_3 ((rd_T35 l0 x8_1).f3).length c356_3] 35 (0,0)) (by (with_reducible repeat (first | refine kN_ ?_ _ | refine kD_ ?_ | refine kA_ ?_ _));refine kP_ (cs:=#[.string ((rd_T35 l0 x8_1).f0),.slice A356_1 ((rd_T35 l0 x8_1).f1).length c356_1,.slice A356_2 ((rd_T35 l0 x8_1).f2).length c356_2,.slice none 0 0]) ?_ 3 _ rfl;(with_reducible repeat (first | refine kN_ ?_ _ | refine kD_ ?_ | refine kA_ ?_ _));refine kP_ (cs:=#[.string ((rd_T35 l0 x8_1).f0),.slice A356_1 ((rd_T35 l0 x8_1).f1).length c356_1,.slice none 0 0,.slice none 0 0]) ?_ 2 _ rfl;(with_reducible repeat (first | refine kN_ ?_ _ | refine kD_ ?_ | refine kA_ ?_ _));refine kP_ (cs:=#[.string ((rd_T35 l0 x8_1).f0),.slice none 0 0,.slice none 0 0,.slice none 0 0]) ?_ 1 _ rfl;(with_reducible repeat (first | refine kN_ ?_ _ | refine kD_ ?_ | refine kA_ ?_ _));refine kP_ (cs:=#[.string (⟨#[]⟩ : ByteArray),.slice none 0 0,.slice none 0 0,.slice none 0 0]) ?_ 0 _ rfl;exact kZ_ BK357) hb);have n1_:=aM_ (bT_ (by exact bZ_ HB) hb);clear BK357 HB;have BK357:=n0_;have HB:=n1_;clear n0_ n1_ hb))
        go_roundg k1
        case measure=>have:=HK1.out;omega
        case rel=>exact ⟨(x3_1 ++ (t358 ++ (⟨#[10]⟩ : ByteArray))),(wrap64 (x8_1 + 1)),(by first | rfl | (simp;done) | (simp [*];done)),(by first | rfl | (simp;done) | (simp [*];done)),H', ⟨by have:=HK1.out;omega⟩,⟨by exact bZ_ HB⟩⟩
       ·rw [if_neg c7] at H
        exact absurd H (by simp)
      ·rw [if_neg c6] at H
       exact absurd H (by simp)
     ·rw [if_neg c4] at H
      exact absurd H (by simp)
    ·rw [if_neg c3] at H
     exact absurd H (by simp)
   ·rw [if_neg c2] at H
    have c2b0 : decide (x8_1 < (l0.length : Int)) = false:=decide_eq_false c2
    clear c2
    obtain rfl:=Option.some.inj H
    go_wp2
    go_ret
    exact ⟨by first | rfl | (simp [errW_none,errW_some] <;> rfl) | (simp [*, errW_none,errW_some] <;> rfl),by exact bZ_ HB⟩
def laws_FnExactDefsText.f (k : Nat) (l0 : List (S46)) : Option (Bool):=(laws_szDefS.f k l0 1048576).bind fun t359=>(if t359 < 0 then (some true) else ((laws_toDefS.f k l0).bind fun t360=>((spec_DefsText.f k t360).bind fun t363=>((laws_toDefS.f k l0).bind fun t364=>((impl_DefsText.f k t364).bind fun t367=>(if t367.toList = t363.toList then ((laws_toDefS.f k l0).bind fun t368=>((laws_eqDefS.f k t364 t368).bind fun t371=>(if t371 = true then (some true) else (some false)))) else (some false)))))))
theorem laws_FnExactDefsText.mono : ∀ a0 k,LeO (laws_FnExactDefsText.f k a0) (laws_FnExactDefsText.f (k + 1) a0):=by
 intro a0 k
 unfold laws_FnExactDefsText.f
 repeat' first
   | (with_reducible exact impl_DefsText.mono _ _)
   | (with_reducible exact laws_eqDefS.mono _ _ _)
   | (with_reducible exact laws_szDefS.mono _ _ _)
   | (with_reducible exact laws_toDefS.mono _ _)
   | (with_reducible exact spec_DefsText.mono _ _)
   | (with_reducible exact LeO.refl _)
   | (with_reducible exact LeO.none _)
   | (with_reducible refine LeO.ite ?_ ?_)
   | (with_reducible refine LeO.bind ?_ (fun _=>?_))
   | exact impl_DefsText.mono _ _
   | exact laws_eqDefS.mono _ _ _
   | exact laws_szDefS.mono _ _ _
   | exact laws_toDefS.mono _ _
   | exact spec_DefsText.mono _ _
   | exact LeO.none _
   | refine LeO.ite ?_ ?_
   | refine LeO.bind ?_ (fun _=>?_)
set_option maxHeartbeats 8000000 in
set_option maxRecDepth 100000 in
theorem laws_FnExactDefsText.calls (k : Nat) (A0 : Option Addr) (c0 : Nat) (l0 : List (S46)) (r : Bool) (w : World) (hr0 : Kd.C k46 w A0 l0.length l0) (hc0 : l0.length ≤ c0) (hr_ : Aside0 (r = true)) (h : laws_FnExactDefsText.f k l0 = some r) :
  Calls Tryd.prog 6 #[.slice A0 l0.length c0] w fun e w'=>e = .returned (.bool r) ∧ Below w.heap.size w w':=by
 have HR0:=aM_ hr0
 have HC0:=aM_ hc0
 clear hr0 hc0
 have HB:=aM_ (Below.refl w.heap.size w)
 have H : ((laws_szDefS.f k l0 1048576).bind fun t359=>(if t359 < 0 then (some true) else ((laws_toDefS.f k l0).bind fun t360=>((spec_DefsText.f k t360).bind fun t363=>((laws_toDefS.f k l0).bind fun t364=>((impl_DefsText.f k t364).bind fun t367=>(if t367.toList = t363.toList then ((laws_toDefS.f k l0).bind fun t368=>((laws_eqDefS.f k t364 t368).bind fun t371=>(if t371 = true then (some true) else (some false)))) else (some false)))))))) = some r:=h
 clear h
 replace H:=oB_ H
 obtain ⟨t359,A20,H⟩:=H
 replace H : (if t359 < 0 then (some true) else ((laws_toDefS.f k l0).bind fun t360=>((spec_DefsText.f k t360).bind fun t363=>((laws_toDefS.f k l0).bind fun t364=>((impl_DefsText.f k t364).bind fun t367=>(if t367.toList = t363.toList then ((laws_toDefS.f k l0).bind fun t368=>((laws_eqDefS.f k t364 t368).bind fun t371=>(if t371 = true then (some true) else (some false)))) else (some false))))))) = some r:=H
 have A2:=aM_ A20
 clear A20
 by_cases c3 : t359 < 0
 ·rw [if_pos c3] at H
  have c3b0 : decide (t359 < 0) = true:=decide_eq_true c3
  clear c3
  obtain rfl:=Option.some.inj H
  go_enter Tryd.func6,Tryd.ntmps6
  go_wp2_with (first | ((with_reducible refine gate_callee (f:=14) rfl ?_);refine goesL_ (some 9) rfl rfl Tryd.func14 (by kernel_rfl) rfl #[.slice A0 l0.length c0,.int .i64 1048576] rfl (by (try simp only [mA_,mC_,mN_]);first | done | rfl | (simp only [lD_,lT_];rfl)) ?_;(with_reducible refine (laws_szDefS.calls k _ _ l0 1048576 t359 _ ?side1 ?side2 A2.out).mono ?_);(case side1=>repeat (first | exact HR0.out | (with_reducible refine cA_ ?_ _) | (with_reducible refine cN_ ?_ _) | (with_reducible refine cD_ ?_)));(case side2=>exact HC0.out);rintro e w4 ⟨rfl,hb⟩;refine ⟨_,rfl,?_⟩;have n0_:=aM_ (bT_ (by exact bZ_ HB) hb);clear HB;have HB:=n0_;clear n0_ hb))
  go_ret
  exact ⟨by first | rfl | (simp [errW_none,errW_some] <;> rfl) | (simp [*, errW_none,errW_some] <;> rfl),by exact bZ_ HB⟩
 ·rw [if_neg c3] at H
  have c3b0 : decide (t359 < 0) = false:=decide_eq_false c3
  clear c3
  replace H:=oB_ H
  obtain ⟨t360,A50,H⟩:=H
  replace H : ((spec_DefsText.f k t360).bind fun t363=>((laws_toDefS.f k l0).bind fun t364=>((impl_DefsText.f k t364).bind fun t367=>(if t367.toList = t363.toList then ((laws_toDefS.f k l0).bind fun t368=>((laws_eqDefS.f k t364 t368).bind fun t371=>(if t371 = true then (some true) else (some false)))) else (some false))))) = some r:=H
  have A5:=aM_ A50
  clear A50
  replace H:=oB_ H
  obtain ⟨t363,A60,H⟩:=H
  replace H : ((laws_toDefS.f k l0).bind fun t364=>((impl_DefsText.f k t364).bind fun t367=>(if t367.toList = t363.toList then ((laws_toDefS.f k l0).bind fun t368=>((laws_eqDefS.f k t364 t368).bind fun t371=>(if t371 = true then (some true) else (some false)))) else (some false)))) = some r:=H
  have A6:=aM_ A60
  clear A60
  replace H:=oB_ H
  obtain ⟨t364,A70,H⟩:=H
  replace H : ((impl_DefsText.f k t364).bind fun t367=>(if t367.toList = t363.toList then ((laws_toDefS.f k l0).bind fun t368=>((laws_eqDefS.f k t364 t368).bind fun t371=>(if t371 = true then (some true) else (some false)))) else (some false))) = some r:=H
  have A7:=aM_ A70
  clear A70
  replace H:=oB_ H
  obtain ⟨t367,A80,H⟩:=H
  replace H : (if t367.toList = t363.toList then ((laws_toDefS.f k l0).bind fun t368=>((laws_eqDefS.f k t364 t368).bind fun t371=>(if t371 = true then (some true) else (some false)))) else (some false)) = some r:=H
  have A8:=aM_ A80
  clear A80
  by_cases c9 : t367.toList = t363.toList
  ·rw [if_pos c9] at H
   have c9b0 : (t367.toList == t363.toList) = true:=beq_iff_eq.mpr c9
   have c9b1 : (t367.toList != t363.toList) = false:=bne_eq_false_iff_eq.mpr c9
   clear c9
   replace H:=oB_ H
   obtain ⟨t368,A100,H⟩:=H
   replace H : ((laws_eqDefS.f k t364 t368).bind fun t371=>(if t371 = true then (some true) else (some false))) = some r:=H
   have A10:=aM_ A100
   clear A100
   replace H:=oB_ H
   obtain ⟨t371,A110,H⟩:=H
   replace H : (if t371 = true then (some true) else (some false)) = some r:=H
   have A11:=aM_ A110
   clear A110
   by_cases c12 : t371 = true
   ·subst c12
    have H1 : (some true) = some r:=by rw [if_pos rfl] at H;exact H
    clear H
    have H:=H1
    clear H1
    obtain rfl:=Option.some.inj H
    go_enter Tryd.func6,Tryd.ntmps6
    go_wp2_with (first | ((with_reducible refine gate_callee (f:=14) rfl ?_);refine goesL_ (some 9) rfl rfl Tryd.func14 (by kernel_rfl) rfl #[.slice A0 l0.length c0,.int .i64 1048576] rfl (by (try simp only [mA_,mC_,mN_]);first | done | rfl | (simp only [lD_,lT_];rfl)) ?_;(with_reducible refine (laws_szDefS.calls k _ _ l0 1048576 t359 _ ?side1 ?side2 A2.out).mono ?_);(case side1=>repeat (first | exact HR0.out | (with_reducible refine cA_ ?_ _) | (with_reducible refine cN_ ?_ _) | (with_reducible refine cD_ ?_)));(case side2=>exact HC0.out);rintro e w13 ⟨rfl,hb⟩;refine ⟨_,rfl,?_⟩;have n0_:=aM_ (bT_ (by exact bZ_ HB) hb);clear HB;have HB:=n0_;clear n0_ hb) | ((with_reducible refine gate_callee (f:=16) rfl ?_);refine goesL_ (some 13) rfl rfl Tryd.func16 (by kernel_rfl) rfl #[.slice A0 l0.length c0] rfl (by (try simp only [mA_,mC_,mN_]);first | done | rfl | (simp only [lD_,lT_];rfl)) ?_;(with_reducible refine (laws_toDefS.calls k _ _ l0 t360 _ ?side1 ?side2 A5.out).mono ?_);(case side1=>exact cZ_ HR0 HB);(case side2=>exact HC0.out);rintro e w14 ⟨v361,rfl,ho0,hb⟩;refine ⟨_,rfl,?_⟩;have n0_:=aM_ (Kd.R_lower ho0 (bS_ (by exact bZ_ HB)));have n1_:=aM_ (bT_ (by exact bZ_ HB) hb);clear HB;have HO362:=n0_;have HB:=n1_;clear n0_ n1_ hb ho0;obtain ⟨Ao15,co15,eo15⟩:=Kd.R_slice HO362.out;subst eo15) | ((with_reducible refine gate_callee (f:=31) rfl ?_);refine goesL_ (some 14) rfl rfl Tryd.func31 (by kernel_rfl) rfl #[.slice Ao15 t360.length co15] rfl (by (try simp only [mA_,mC_,mN_]);first | done | rfl | (simp only [lD_,lT_];rfl)) ?_;(with_reducible refine (spec_DefsText.calls k _ _ t360 t363 _ ?side1 ?side2 A6.out).mono ?_);(case side1=>repeat (first | exact (Kd.R_reads' HO362.out).2.2 | (with_reducible refine cA_ ?_ _) | (with_reducible refine cN_ ?_ _) | (with_reducible refine cD_ ?_)));(case side2=>exact (Kd.R_reads' HO362.out).2.1);rintro e w16 ⟨rfl,hb⟩;refine ⟨_,rfl,?_⟩;have n0_:=aM_ (Kd.R_below (by exact rZ_ HO362) hb);have n1_:=aM_ (bT_ (by exact bZ_ HB) hb);clear HO362 HB;have HO362:=n0_;have HB:=n1_;clear n0_ n1_ hb) | ((with_reducible refine gate_callee (f:=16) rfl ?_);refine goesL_ (some 16) rfl rfl Tryd.func16 (by kernel_rfl) rfl #[.slice A0 l0.length c0] rfl (by (try simp only [mA_,mC_,mN_]);first | done | rfl | (simp only [lD_,lT_];rfl)) ?_;(with_reducible refine (laws_toDefS.calls k _ _ l0 t364 _ ?side1 ?side2 A7.out).mono ?_);(case side1=>exact cZ_ HR0 HB);(case side2=>exact HC0.out);rintro e w17 ⟨v365,rfl,ho0,hb⟩;refine ⟨_,rfl,?_⟩;have n0_:=aM_ (Kd.R_elder' (by exact rZ_ HO362) (Kd.R_base ho0) hb);have n1_:=aM_ (Kd.R_lower (Kd.R_new' ho0 (Kd.R_lt (by exact rZ_ HO362))) (bS_ (by exact bZ_ HB)));have n2_:=aM_ (bT_ (by exact bZ_ HB) hb);clear HO362 HB;have HO362:=n0_;have HO366:=n1_;have HB:=n2_;clear n0_ n1_ n2_ hb ho0;obtain ⟨Ao18,co18,eo18⟩:=Kd.R_slice HO366.out;subst eo18) | ((with_reducible refine gate_callee (f:=32) rfl ?_);refine goesL_ (some 18) rfl rfl Tryd.func32 (by kernel_rfl) rfl #[.slice Ao18 t364.length co18] rfl (by (try simp only [mA_,mC_,mN_]);first | done | rfl | (simp only [lD_,lT_];rfl)) ?_;(with_reducible refine (impl_DefsText.calls k _ _ t364 t367 _ ?side1 ?side2 A8.out).mono ?_);(case side1=>repeat (first | exact (Kd.R_reads' HO366.out).2.2 | (with_reducible refine cA_ ?_ _) | (with_reducible refine cN_ ?_ _) | (with_reducible refine cD_ ?_)));(case side2=>exact (Kd.R_reads' HO366.out).2.1);rintro e w19 ⟨rfl,hb⟩;refine ⟨_,rfl,?_⟩;have n0_:=aM_ (Kd.R_below (by exact rZ_ HO362) hb);have n1_:=aM_ (Kd.R_below (by exact rZ_ HO366) hb);have n2_:=aM_ (bT_ (by exact bZ_ HB) hb);clear HO362 HO366 HB;have HO362:=n0_;have HO366:=n1_;have HB:=n2_;clear n0_ n1_ n2_ hb) | ((with_reducible refine gate_callee (f:=16) rfl ?_);refine goesL_ (some 24) rfl rfl Tryd.func16 (by kernel_rfl) rfl #[.slice A0 l0.length c0] rfl (by (try simp only [mA_,mC_,mN_]);first | done | rfl | (simp only [lD_,lT_];rfl)) ?_;(with_reducible refine (laws_toDefS.calls k _ _ l0 t368 _ ?side1 ?side2 A10.out).mono ?_);(case side1=>exact cZ_ HR0 HB);(case side2=>exact HC0.out);rintro e w20 ⟨v369,rfl,ho0,hb⟩;refine ⟨_,rfl,?_⟩;have n0_:=aM_ (Kd.R_elder' (by exact rZ_ HO362) (Kd.R_base ho0) hb);have n1_:=aM_ (Kd.R_elder' (by exact rZ_ HO366) (Kd.R_base ho0) hb);have n2_:=aM_ (Kd.R_lower (Kd.R_new' (Kd.R_new' ho0 (Kd.R_lt (by exact rZ_ HO362))) (Kd.R_lt (by exact rZ_ HO366))) (bS_ (by exact bZ_ HB)));have n3_:=aM_ (bT_ (by exact bZ_ HB) hb);clear HO362 HO366 HB;have HO362:=n0_;have HO366:=n1_;have HO370:=n2_;have HB:=n3_;clear n0_ n1_ n2_ n3_ hb ho0;obtain ⟨Ao21,co21,eo21⟩:=Kd.R_slice HO370.out;subst eo21) | ((with_reducible refine gate_callee (f:=18) rfl ?_);refine goesL_ (some 25) rfl rfl Tryd.func18 (by kernel_rfl) rfl #[.slice Ao18 t364.length co18,.slice Ao21 t368.length co21] rfl (by (try simp only [mA_,mC_,mN_]);first | done | rfl | (simp only [lD_,lT_];rfl)) ?_;(with_reducible refine (laws_eqDefS.calls k _ _ t364 _ _ t368 true _ ?side1 ?side2 ?side3 ?side4 A11.out).mono ?_);(case side1=>repeat (first | exact (Kd.R_reads' HO366.out).2.2 | (with_reducible refine cA_ ?_ _) | (with_reducible refine cN_ ?_ _) | (with_reducible refine cD_ ?_)));(case side2=>exact (Kd.R_reads' HO366.out).2.1);(case side3=>repeat (first | exact (Kd.R_reads' HO370.out).2.2 | (with_reducible refine cA_ ?_ _) | (with_reducible refine cN_ ?_ _) | (with_reducible refine cD_ ?_)));(case side4=>exact (Kd.R_reads' HO370.out).2.1);rintro e w22 ⟨rfl,hb⟩;refine ⟨_,rfl,?_⟩;have n0_:=aM_ (Kd.R_below (by exact rZ_ HO362) hb);have n1_:=aM_ (Kd.R_below (by exact rZ_ HO366) hb);have n2_:=aM_ (Kd.R_below (by exact rZ_ HO370) hb);have n3_:=aM_ (bT_ (by exact bZ_ HB) hb);clear HO362 HO366 HO370 HB;have HO362:=n0_;have HO366:=n1_;have HO370:=n2_;have HB:=n3_;clear n0_ n1_ n2_ n3_ hb))
    go_ret
    exact ⟨by first | rfl | (simp [errW_none,errW_some] <;> rfl) | (simp [*, errW_none,errW_some] <;> rfl),by exact bZ_ HB⟩
   ·replace c12:=Bool.eq_false_iff.mpr c12
    subst c12
    have H1 : (some false) = some r:=by rw [if_neg (show ¬ (false = true) by decide)] at H;exact H
    clear H
    have H:=H1
    clear H1
    exact absurd (H.trans (congrArg some hr_.out)) (by simp)
  ·rw [if_neg c9] at H
   have c9b0 : (t367.toList == t363.toList) = false:=beq_eq_false_iff_ne.mpr c9
   have c9b1 : (t367.toList != t363.toList) = true:=bne_iff_ne.mpr c9
   exact absurd (H.trans (congrArg some hr_.out)) (by simp)
end Go.Proofs.YtipehkeabnfngaaDoor.PFnExactDefsText
