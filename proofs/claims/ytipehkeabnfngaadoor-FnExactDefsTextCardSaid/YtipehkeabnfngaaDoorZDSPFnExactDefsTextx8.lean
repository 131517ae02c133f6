import Derived.Test.YtipehkeabnfngaaDoorZDSPFnExactDefsTextx0
import Derived.Test.YtipehkeabnfngaaDoorZDSPFnExactDefsTextx5
namespace Go.Proofs.YtipehkeabnfngaaDoor.PFnExactDefsText
open Go.RowKit Go.Proofs.YtipehkeabnfngaaDoorW.PrintWords Go.Proofs.YtipehkeabnfngaaDoorW.PrintLast Go.Proofs.YtipehkeabnfngaaDoorW.PrintMore Go.Proofs.YtipehkeabnfngaaDoor.Xtra
attribute [local go_sem] max2_int min2_int max_two min_two max_three min_three max_four min_four str_leq str_gtr str_geq setCell_drewN cell_set2 cell_set3   -- for this text's walks alone
set_option linter.unusedVariables false
set_option linter.unusedSimpArgs false
def spec_l9Parts.l0 : Nat → List (S85) → Int → ByteArray → List (S82) → List (S85) → List (S69) → Option (Bool)
 | 0,_,_,_,_,_,_=>none
 | k + 1,x1,x5,x231000,x231001,x231002,x231003=>if x5 < (x1.length : Int) then (if 0 ≤ x5 then ((spec_l1In.f ((rd_T85 x1 x5).f0) 0 (wrap64 ((x231001.length : Int) - 1))).bind fun t232=>(if t232 = true then (if x5 > 0 then (if 0 < (x1.length : Int) then (if ((rd_T85 x1 0).f0) = ((rd_T85 x1 x5).f0) then (some false) else (spec_l9Parts.l0 k x1 (wrap64 (x5 + 1)) x231000 x231001 x231002 x231003)) else (none)) else (spec_l9Parts.l0 k x1 (wrap64 (x5 + 1)) x231000 x231001 x231002 x231003)) else (some false))) else (none)) else ((spec_l1In.f (x1.length : Int) 1 2).bind fun t235=>(some t235))
def spec_l9Parts.f (k : Nat) (a0_0 : ByteArray) (l0_1 : List (S82)) (l0_2 : List (S85)) (l0_3 : List (S69)) (l1 : List (S85)) : Option (Bool):=spec_l9Parts.l0 k l1 0 a0_0 l0_1 l0_2 l0_3
theorem spec_l9Parts.mono_l : ∀ k,(∀ y0 y1 y2 y3 y4 y5,LeO (spec_l9Parts.l0 k y0 y1 y2 y3 y4 y5) (spec_l9Parts.l0 (k + 1) y0 y1 y2 y3 y4 y5))
 | 0=>fun _ _ _ _ _ _ r h=>by simp [spec_l9Parts.l0] at h
 | k + 1=>by
  have ih0:=spec_l9Parts.mono_l k
  ·intro y0 y1 y2 y3 y4 y5
   unfold spec_l9Parts.l0
   repeat' first
   | (with_reducible exact ih0 _ _ _ _ _ _)
   | (with_reducible exact LeO.refl _)
   | (with_reducible exact LeO.none _)
   | (with_reducible refine LeO.ite ?_ ?_)
   | (with_reducible refine LeO.bind ?_ (fun _=>?_))
   | exact ih0 _ _ _ _ _ _
   | exact LeO.none _
   | refine LeO.ite ?_ ?_
   | refine LeO.bind ?_ (fun _=>?_)
theorem spec_l9Parts.mono : ∀ a0 a1 a2 a3 a4 k,LeO (spec_l9Parts.f k a0 a1 a2 a3 a4) (spec_l9Parts.f (k + 1) a0 a1 a2 a3 a4):=by
 intro a0 a1 a2 a3 a4 k
 have ih0:=spec_l9Parts.mono_l k
 unfold spec_l9Parts.f
 repeat' first
   | (with_reducible exact ih0 _ _ _ _ _ _)
   | (with_reducible exact LeO.refl _)
   | (with_reducible exact LeO.none _)
   | (with_reducible refine LeO.ite ?_ ?_)
   | (with_reducible refine LeO.bind ?_ (fun _=>?_))
   | exact ih0 _ _ _ _ _ _
   | exact LeO.none _
   | refine LeO.ite ?_ ?_
   | refine LeO.bind ?_ (fun _=>?_)
set_option maxHeartbeats 8000000 in
set_option maxRecDepth 100000 in
theorem spec_l9Parts.calls (k : Nat) (a0_0 : ByteArray) (A0_1 : Option Addr) (c0_1 : Nat) (l0_1 : List (S82)) (A0_2 : Option Addr) (c0_2 : Nat) (l0_2 : List (S85)) (A0_3 : Option Addr) (c0_3 : Nat) (l0_3 : List (S69)) (A1 : Option Addr) (c1 : Nat) (l1 : List (S85)) (r : Bool) (w : World) (hr0_1 : Kd.C k82 w A0_1 l0_1.length l0_1) (hc0_1 : l0_1.length ≤ c0_1) (hr0_2 : Kd.C k85 w A0_2 l0_2.length l0_2) (hc0_2 : l0_2.length ≤ c0_2) (hr0_3 : Kd.C k69 w A0_3 l0_3.length l0_3) (hc0_3 : l0_3.length ≤ c0_3) (hr1 : Kd.C k85 w A1 l1.length l1) (hc1 : l1.length ≤ c1) (h : spec_l9Parts.f k a0_0 l0_1 l0_2 l0_3 l1 = some r) :
  Calls Tryd.prog 109 #[.agg #[.string a0_0,.slice A0_1 l0_1.length c0_1,.slice A0_2 l0_2.length c0_2,.slice A0_3 l0_3.length c0_3],.slice A1 l1.length c1] w fun e w'=>e = .returned (.bool r) ∧ Below w.heap.size w w':=by
 have hu35:=Tryd.underlying35
 have HR0_1:=aM_ hr0_1
 have HC0_1:=aM_ hc0_1
 clear hr0_1 hc0_1
 have HR0_2:=aM_ hr0_2
 have HC0_2:=aM_ hc0_2
 clear hr0_2 hc0_2
 have HR0_3:=aM_ hr0_3
 have HC0_3:=aM_ hc0_3
 clear hr0_3 hc0_3
 have HR1:=aM_ hr1
 have HC1:=aM_ hc1
 clear hr1 hc1
 have HB:=aM_ (Below.refl w.heap.size w)
 have H : (spec_l9Parts.l0 k l1 0 a0_0 l0_1 l0_2 l0_3) = some r:=h
 clear h
 have H':=aM_ H
 clear H
 go_enter Tryd.func109,Tryd.ntmps109
 go_wp2_with (first | ((with_reducible refine gate_dst (N:=2) rfl ?_);refine box_event ?hg (N:=2) ?hd (cs:=#[.string a0_0,.slice A0_1 l0_1.length c0_1,.slice A0_2 l0_2.length c0_2,.slice A0_3 l0_3.length c0_3]) (t:=35) ?hr ?_;(case hd=>rfl);(case hg=>rfl);(case hr=>first | (go_simp;done) | (go_simp;rfl));intro gb230 hg w3 hbox hb;have n0_:=aM_ (bT_ (by exact bZ_ HB) hb);have n1_:=aM_ (hbox);have n2_:=aM_ ((by rw [hg];exact (bS_ (by exact bZ_ HB)) : w.heap.size ≤ gb230));have n3_:=aM_ ((by rw [hg];exact (bS_ (by exact bZ_ HB)) : w.heap.size ≤ gb230));clear HB;have HB:=n0_;have BK230:=n1_;have GW230:=n2_;have GE230:=n3_;clear n0_ n1_ n2_ n3_ hb hbox hg))
 repeat (go_quiet (first | ((with_reducible refine gate_dst (N:=2) rfl ?_);refine box_event ?hg (N:=2) ?hd (cs:=#[.string a0_0,.slice A0_1 l0_1.length c0_1,.slice A0_2 l0_2.length c0_2,.slice A0_3 l0_3.length c0_3]) (t:=35) ?hr ?_;(case hd=>rfl);(case hg=>rfl);(case hr=>first | (go_simp;done) | (go_simp;rfl));intro gb230 hg w3 hbox hb;have n0_:=aM_ (bT_ (by exact bZ_ HB) hb);have n1_:=aM_ (hbox);have n2_:=aM_ ((by rw [hg];exact (bS_ (by exact bZ_ HB)) : w.heap.size ≤ gb230));have n3_:=aM_ ((by rw [hg];exact (bS_ (by exact bZ_ HB)) : w.heap.size ≤ gb230));clear HB;have HB:=n0_;have BK230:=n1_;have GW230:=n2_;have GE230:=n3_;clear n0_ n1_ n2_ n3_ hb hbox hg));try go_wp2_with (first | ((with_reducible refine gate_dst (N:=2) rfl ?_);refine box_event ?hg (N:=2) ?hd (cs:=#[.string a0_0,.slice A0_1 l0_1.length c0_1,.slice A0_2 l0_2.length c0_2,.slice A0_3 l0_3.length c0_3]) (t:=35) ?hr ?_;(case hd=>rfl);(case hg=>rfl);(case hr=>first | (go_simp;done) | (go_simp;rfl));intro gb230 hg w3 hbox hb;have n0_:=aM_ (bT_ (by exact bZ_ HB) hb);have n1_:=aM_ (hbox);have n2_:=aM_ ((by rw [hg];exact (bS_ (by exact bZ_ HB)) : w.heap.size ≤ gb230));have n3_:=aM_ ((by rw [hg];exact (bS_ (by exact bZ_ HB)) : w.heap.size ≤ gb230));clear HB;have HB:=n0_;have BK230:=n1_;have GW230:=n2_;have GE230:=n3_;clear n0_ n1_ n2_ n3_ hb hbox hg)))
 (try simp only [Act.put,sI_,sS_,sZ_])
 go_loopg [5] k (fun kq v5 w'=>∃ (x5_1 : Int),v5 = .int .i64 x5_1 ∧ Aside0 (spec_l9Parts.l0 kq l1 x5_1 a0_0 l0_1 l0_2 l0_3 = some r) ∧ Aside0 (kq ≤ k) ∧ Aside0 (w'.heap[gb230]? = some (.cells #[.string a0_0,(.slice A0_1 l0_1.length c0_1),(.slice A0_2 l0_2.length c0_2),(.slice A0_3 l0_3.length c0_3)] 35 (0,0))) ∧ Aside0 (Below w.heap.size w w'))
 case atStart=>exact ⟨(0),(by first | rfl | (simp;done) | (simp [*];done)),H', ⟨Nat.le_refl _⟩,⟨by exact kZ_ BK230⟩,⟨by exact bZ_ HB⟩⟩
 case round =>
  clear H'
  obtain ⟨x5_1,rfl,HA,HK1,BK230,HB⟩:=hrel
  cases gk with
  | zero=>exact absurd HA.out (by simp [spec_l9Parts.l0])
  | succ k1 =>
   have H:=HA.out
   clear HA
   simp only [spec_l9Parts.l0] at H
   by_cases c4 : x5_1 < (l1.length : Int)
   ·rw [if_pos c4] at H
    have c4b0 : decide (x5_1 < (l1.length : Int)) = true:=decide_eq_true c4
    clear c4
    by_cases c5 : 0 ≤ x5_1
    ·rw [if_pos c5] at H
     have c5b0 : decide (0 ≤ x5_1) = true:=decide_eq_true c5
     clear c5
     replace H:=oB_ H
     obtain ⟨t232,A60,H⟩:=H
     replace H : (if t232 = true then (if x5_1 > 0 then (if 0 < (l1.length : Int) then (if ((rd_T85 l1 0).f0) = ((rd_T85 l1 x5_1).f0) then (some false) else (spec_l9Parts.l0 k1 l1 (wrap64 (x5_1 + 1)) a0_0 l0_1 l0_2 l0_3)) else (none)) else (spec_l9Parts.l0 k1 l1 (wrap64 (x5_1 + 1)) a0_0 l0_1 l0_2 l0_3)) else (some false)) = some r:=H
     have A6:=aM_ A60
     clear A60
     by_cases c7 : t232 = true
     ·subst c7
      have H1 : (if x5_1 > 0 then (if 0 < (l1.length : Int) then (if ((rd_T85 l1 0).f0) = ((rd_T85 l1 x5_1).f0) then (some false) else (spec_l9Parts.l0 k1 l1 (wrap64 (x5_1 + 1)) a0_0 l0_1 l0_2 l0_3)) else (none)) else (spec_l9Parts.l0 k1 l1 (wrap64 (x5_1 + 1)) a0_0 l0_1 l0_2 l0_3)) = some r:=by rw [if_pos rfl] at H;exact H
      clear H
      have H:=H1
      clear H1
      by_cases c8 : x5_1 > 0
      ·rw [if_pos c8] at H
       have c8b0 : decide (0 < x5_1) = true:=decide_eq_true c8
       clear c8
       by_cases c9 : 0 < (l1.length : Int)
       ·rw [if_pos c9] at H
        have c9b0 : decide (0 < (l1.length : Int)) = true:=decide_eq_true c9
        have c9b1 : decide (0 < l1.length) = true:=decide_eq_true (by omega)
        clear c9
        by_cases c10 : ((rd_T85 l1 0).f0) = ((rd_T85 l1 x5_1).f0)
        ·rw [if_pos c10] at H
         have c10b0 : (((rd_T85 l1 0).f0) == ((rd_T85 l1 x5_1).f0)) = true:=beq_iff_eq.mpr c10
         have c10b1 : (((rd_T85 l1 0).f0) != ((rd_T85 l1 x5_1).f0)) = false:=bne_eq_false_iff_eq.mpr c10
         clear c10
         obtain rfl:=Option.some.inj H
         have p231 : 0 ≤ (x5_1 : Int):=oT_ (by first | (with_reducible assumption) | assumption)
         have q231 : x5_1 < (l1.length : Int):=oT_ (by first | (with_reducible assumption) | assumption)
         obtain ⟨ad231,e231,hx231_0,hx231_1⟩:=at_T85 HR1.out x5_1 p231 q231
         cases e231
         replace hx231_0:=(HB.out.cell (wL_ w _ hx231_0)).trans hx231_0
         replace hx231_1:=(HB.out.cell (wL_ w _ hx231_1)).trans hx231_1
         replace p231:=eq_true p231
         replace q231:=eq_true q231
         have hcz11_0 : wr.cell? ⟨gb230,0,none⟩ = some (.string a0_0):=(kC_ BK230.out 0).trans rfl
         have hcz11_1 : wr.cell? ⟨gb230,1,none⟩ = some (.slice A0_1 l0_1.length c0_1):=(kC_ BK230.out 1).trans rfl
         have hcz11_2 : wr.cell? ⟨gb230,2,none⟩ = some (.slice A0_2 l0_2.length c0_2):=(kC_ BK230.out 2).trans rfl
         have hcz11_3 : wr.cell? ⟨gb230,3,none⟩ = some (.slice A0_3 l0_3.length c0_3):=(kC_ BK230.out 3).trans rfl
         have hfz11_0:=kF_ BK230.out 0
         have hfz11_1:=kF_ BK230.out 1
         have hfz11_2:=kF_ BK230.out 2
         have hfz11_3:=kF_ BK230.out 3
         go_wp2_with (first | (go_at_call 101;(try simp only [i64_w]);(with_reducible refine (spec_l1In.calls ((rd_T85 l1 x5_1).f0) 0 (wrap64 ((l0_1.length : Int) - 1)) true _ A6.out).mono ?_);rintro e w' ⟨rfl,⟨nd,rfl⟩⟩;(try first | exact ⟨rfl,_,World.drewN_drewN _ _ _⟩ | exact ⟨rfl,_,Eq.trans (World.drewN_drewN _ _ _) (congrArg (World.drewN _) (Nat.add_assoc _ _ _))⟩);have p233 : 0 ≤ (0 : Int):=(by omega);have q233 : 0 < (l1.length : Int):=oT_ (by first | (with_reducible assumption) | assumption);obtain ⟨ad233,e233,hx233_0,hx233_1⟩:=at_T85 HR1.out 0 p233 q233;obtain rfl : ad231 = ad233:=(by injection e233);have qi233 : (0 < l1.length) = True:=eq_true (by omega);(try rw [show ((0 : Int)).toNat = 0 from rfl] at hx233_0);(try rw [show 0 * 2 = 0 from rfl] at hx233_0);(try rw [Addr.add_zero'] at hx233_0);(try rw [show ((0 : Int)).toNat = 0 from rfl] at hx233_1);(try rw [show 0 * 2 = 0 from rfl] at hx233_1);(try rw [Addr.add_zero'] at hx233_1);replace hx233_0:=(HB.out.cell (wL_ w _ hx233_0)).trans hx233_0;replace hx233_1:=(HB.out.cell (wL_ w _ hx233_1)).trans hx233_1;replace p233:=eq_true p233;replace q233:=eq_true q233;have p234 : 0 ≤ (x5_1 : Int):=oT_ (by first | (with_reducible assumption) | assumption);have q234 : x5_1 < (l1.length : Int):=oT_ (by first | (with_reducible assumption) | assumption);obtain ⟨ad234,e234,hx234_0,hx234_1⟩:=at_T85 HR1.out x5_1 p234 q234;obtain rfl : ad231 = ad234:=(by injection e234);replace hx234_0:=(HB.out.cell (wL_ w _ hx234_0)).trans hx234_0;replace hx234_1:=(HB.out.cell (wL_ w _ hx234_1)).trans hx234_1;replace p234:=eq_true p234;replace q234:=eq_true q234))
         repeat (go_quiet (first | (go_at_call 101;(try simp only [i64_w]);(with_reducible refine (spec_l1In.calls ((rd_T85 l1 x5_1).f0) 0 (wrap64 ((l0_1.length : Int) - 1)) true _ A6.out).mono ?_);rintro e w' ⟨rfl,⟨nd,rfl⟩⟩;(try first | exact ⟨rfl,_,World.drewN_drewN _ _ _⟩ | exact ⟨rfl,_,Eq.trans (World.drewN_drewN _ _ _) (congrArg (World.drewN _) (Nat.add_assoc _ _ _))⟩);have p233 : 0 ≤ (0 : Int):=(by omega);have q233 : 0 < (l1.length : Int):=oT_ (by first | (with_reducible assumption) | assumption);obtain ⟨ad233,e233,hx233_0,hx233_1⟩:=at_T85 HR1.out 0 p233 q233;obtain rfl : ad231 = ad233:=(by injection e233);have qi233 : (0 < l1.length) = True:=eq_true (by omega);(try rw [show ((0 : Int)).toNat = 0 from rfl] at hx233_0);(try rw [show 0 * 2 = 0 from rfl] at hx233_0);(try rw [Addr.add_zero'] at hx233_0);(try rw [show ((0 : Int)).toNat = 0 from rfl] at hx233_1);(try rw [show 0 * 2 = 0 from rfl] at hx233_1);(try rw [Addr.add_zero'] at hx233_1);replace hx233_0:=(HB.out.cell (wL_ w _ hx233_0)).trans hx233_0;replace hx233_1:=(HB.out.cell (wL_ w _ hx233_1)).trans hx233_1;replace p233:=eq_true p233;replace q233:=eq_true q233;have p234 : 0 ≤ (x5_1 : Int):=oT_ (by first | (with_reducible assumption) | assumption);have q234 : x5_1 < (l1.length : Int):=oT_ (by first | (with_reducible assumption) | assumption);obtain ⟨ad234,e234,hx234_0,hx234_1⟩:=at_T85 HR1.out x5_1 p234 q234;obtain rfl : ad231 = ad234:=(by injection e234);replace hx234_0:=(HB.out.cell (wL_ w _ hx234_0)).trans hx234_0;replace hx234_1:=(HB.out.cell (wL_ w _ hx234_1)).trans hx234_1;replace p234:=eq_true p234;replace q234:=eq_true q234));try go_wp2_with (first | (go_at_call 101;(try simp only [i64_w]);(with_reducible refine (spec_l1In.calls ((rd_T85 l1 x5_1).f0) 0 (wrap64 ((l0_1.length : Int) - 1)) true _ A6.out).mono ?_);rintro e w' ⟨rfl,⟨nd,rfl⟩⟩;(try first | exact ⟨rfl,_,World.drewN_drewN _ _ _⟩ | exact ⟨rfl,_,Eq.trans (World.drewN_drewN _ _ _) (congrArg (World.drewN _) (Nat.add_assoc _ _ _))⟩);have p233 : 0 ≤ (0 : Int):=(by omega);have q233 : 0 < (l1.length : Int):=oT_ (by first | (with_reducible assumption) | assumption);obtain ⟨ad233,e233,hx233_0,hx233_1⟩:=at_T85 HR1.out 0 p233 q233;obtain rfl : ad231 = ad233:=(by injection e233);have qi233 : (0 < l1.length) = True:=eq_true (by omega);(try rw [show ((0 : Int)).toNat = 0 from rfl] at hx233_0);(try rw [show 0 * 2 = 0 from rfl] at hx233_0);(try rw [Addr.add_zero'] at hx233_0);(try rw [show ((0 : Int)).toNat = 0 from rfl] at hx233_1);(try rw [show 0 * 2 = 0 from rfl] at hx233_1);(try rw [Addr.add_zero'] at hx233_1);replace hx233_0:=(HB.out.cell (wL_ w _ hx233_0)).trans hx233_0;replace hx233_1:=(HB.out.cell (wL_ w _ hx233_1)).trans hx233_1;replace p233:=eq_true p233;replace q233:=eq_true q233;have p234 : 0 ≤ (x5_1 : Int):=oT_ (by first | (with_reducible assumption) | assumption);have q234 : x5_1 < (l1.length : Int):=oT_ (by first | (with_reducible assumption) | assumption);obtain ⟨ad234,e234,hx234_0,hx234_1⟩:=at_T85 HR1.out x5_1 p234 q234;obtain rfl : ad231 = ad234:=(by injection e234);replace hx234_0:=(HB.out.cell (wL_ w _ hx234_0)).trans hx234_0;replace hx234_1:=(HB.out.cell (wL_ w _ hx234_1)).trans hx234_1;replace p234:=eq_true p234;replace q234:=eq_true q234)))
         go_ret
         exact ⟨by first | rfl | (simp [errW_none,errW_some] <;> rfl) | (simp [*, errW_none,errW_some] <;> rfl),by exact bZ_ HB⟩
        ·rw [if_neg c10] at H
         have c10b0 : (((rd_T85 l1 0).f0) == ((rd_T85 l1 x5_1).f0)) = false:=beq_eq_false_iff_ne.mpr c10
         have c10b1 : (((rd_T85 l1 0).f0) != ((rd_T85 l1 x5_1).f0)) = true:=bne_iff_ne.mpr c10
         have H':=aM_ H
         clear H
         have p231 : 0 ≤ (x5_1 : Int):=oT_ (by first | (with_reducible assumption) | assumption)
         have q231 : x5_1 < (l1.length : Int):=oT_ (by first | (with_reducible assumption) | assumption)
         obtain ⟨ad231,e231,hx231_0,hx231_1⟩:=at_T85 HR1.out x5_1 p231 q231
         cases e231
         replace hx231_0:=(HB.out.cell (wL_ w _ hx231_0)).trans hx231_0
         replace hx231_1:=(HB.out.cell (wL_ w _ hx231_1)).trans hx231_1
         replace p231:=eq_true p231
         replace q231:=eq_true q231
         have hcz12_0 : wr.cell? ⟨gb230,0,none⟩ = some (.string a0_0):=(kC_ BK230.out 0).trans rfl
         have hcz12_1 : wr.cell? ⟨gb230,1,none⟩ = some (.slice A0_1 l0_1.length c0_1):=(kC_ BK230.out 1).trans rfl
         have hcz12_2 : wr.cell? ⟨gb230,2,none⟩ = some (.slice A0_2 l0_2.length c0_2):=(kC_ BK230.out 2).trans rfl
         have hcz12_3 : wr.cell? ⟨gb230,3,none⟩ = some (.slice A0_3 l0_3.length c0_3):=(kC_ BK230.out 3).trans rfl
         have hfz12_0:=kF_ BK230.out 0
         have hfz12_1:=kF_ BK230.out 1
         have hfz12_2:=kF_ BK230.out 2
         have hfz12_3:=kF_ BK230.out 3
         go_wp2_with (first | (go_at_call 101;(try simp only [i64_w]);(with_reducible refine (spec_l1In.calls ((rd_T85 l1 x5_1).f0) 0 (wrap64 ((l0_1.length : Int) - 1)) true _ A6.out).mono ?_);rintro e w' ⟨rfl,⟨nd,rfl⟩⟩;(try first | exact ⟨rfl,_,World.drewN_drewN _ _ _⟩ | exact ⟨rfl,_,Eq.trans (World.drewN_drewN _ _ _) (congrArg (World.drewN _) (Nat.add_assoc _ _ _))⟩);have p233 : 0 ≤ (0 : Int):=(by omega);have q233 : 0 < (l1.length : Int):=oT_ (by first | (with_reducible assumption) | assumption);obtain ⟨ad233,e233,hx233_0,hx233_1⟩:=at_T85 HR1.out 0 p233 q233;obtain rfl : ad231 = ad233:=(by injection e233);have qi233 : (0 < l1.length) = True:=eq_true (by omega);(try rw [show ((0 : Int)).toNat = 0 from rfl] at hx233_0);(try rw [show 0 * 2 = 0 from rfl] at hx233_0);(try rw [Addr.add_zero'] at hx233_0);(try rw [show ((0 : Int)).toNat = 0 from rfl] at hx233_1);(try rw [show 0 * 2 = 0 from rfl] at hx233_1);(try rw [Addr.add_zero'] at hx233_1);replace hx233_0:=(HB.out.cell (wL_ w _ hx233_0)).trans hx233_0;replace hx233_1:=(HB.out.cell (wL_ w _ hx233_1)).trans hx233_1;replace p233:=eq_true p233;replace q233:=eq_true q233;have p234 : 0 ≤ (x5_1 : Int):=oT_ (by first | (with_reducible assumption) | assumption);have q234 : x5_1 < (l1.length : Int):=oT_ (by first | (with_reducible assumption) | assumption);obtain ⟨ad234,e234,hx234_0,hx234_1⟩:=at_T85 HR1.out x5_1 p234 q234;obtain rfl : ad231 = ad234:=(by injection e234);replace hx234_0:=(HB.out.cell (wL_ w _ hx234_0)).trans hx234_0;replace hx234_1:=(HB.out.cell (wL_ w _ hx234_1)).trans hx234_1;replace p234:=eq_true p234;replace q234:=eq_true q234))
         repeat (go_quiet (first | (go_at_call 101;(try simp only [i64_w]);(with_reducible refine (spec_l1In.calls ((rd_T85 l1 x5_1).f0) 0 (wrap64 ((l0_1.length : Int) - 1)) true _ A6.out).mono ?_);rintro e w' ⟨rfl,⟨nd,rfl⟩⟩;(try first | exact ⟨rfl,_,World.drewN_drewN _ _ _⟩ | exact ⟨rfl,_,Eq.trans (World.drewN_drewN _ _ _) (congrArg (World.drewN _) (Nat.add_assoc _ _ _))⟩);have p233 : 0 ≤ (0 : Int):=(by omega);have q233 : 0 < (l1.length : Int):=oT_ (by first | (with_reducible assumption) | assumption);obtain ⟨ad233,e233,hx233_0,hx233_1⟩:=at_T85 HR1.out 0 p233 q233;obtain rfl : ad231 = ad233:=(by injection e233);have qi233 : (0 < l1.length) = True:=eq_true (by omega);(try rw [show ((0 : Int)).toNat = 0 from rfl] at hx233_0);(try rw [show 0 * 2 = 0 from rfl] at hx233_0);(try rw [Addr.add_zero'] at hx233_0);(try rw [show ((0 : Int)).toNat = 0 from rfl] at hx233_1);(try rw [show 0 * 2 = 0 from rfl] at hx233_1);(try rw [Addr.add_zero'] at hx233_1);replace hx233_0:=(HB.out.cell (wL_ w _ hx233_0)).trans hx233_0;replace hx233_1:=(HB.out.cell (wL_ w _ hx233_1)).trans hx233_1;replace p233:=eq_true p233;replace q233:=eq_true q233;have p234 : 0 ≤ (x5_1 : Int):=oT_ (by first | (with_reducible assumption) | assumption);have q234 : x5_1 < (l1.length : Int):=oT_ (by first | (with_reducible assumption) | assumption);obtain ⟨ad234,e234,hx234_0,hx234_1⟩:=at_T85 HR1.out x5_1 p234 q234;obtain rfl : ad231 = ad234:=(by injection e234);replace hx234_0:=(HB.out.cell (wL_ w _ hx234_0)).trans hx234_0;replace hx234_1:=(HB.out.cell (wL_ w _ hx234_1)).trans hx234_1;replace p234:=eq_true p234;replace q234:=eq_true q234));try go_wp2_with (first | (go_at_call 101;(try simp only [i64_w]);(with_reducible refine (spec_l1In.calls ((rd_T85 l1 x5_1).f0) 0 (wrap64 ((l0_1.length : Int) - 1)) true _ A6.out).mono ?_);rintro e w' ⟨rfl,⟨nd,rfl⟩⟩;(try first | exact ⟨rfl,_,World.drewN_drewN _ _ _⟩ | exact ⟨rfl,_,Eq.trans (World.drewN_drewN _ _ _) (congrArg (World.drewN _) (Nat.add_assoc _ _ _))⟩);have p233 : 0 ≤ (0 : Int):=(by omega);have q233 : 0 < (l1.length : Int):=oT_ (by first | (with_reducible assumption) | assumption);obtain ⟨ad233,e233,hx233_0,hx233_1⟩:=at_T85 HR1.out 0 p233 q233;obtain rfl : ad231 = ad233:=(by injection e233);have qi233 : (0 < l1.length) = True:=eq_true (by omega);(try rw [show ((0 : Int)).toNat = 0 from rfl] at hx233_0);(try rw [show 0 * 2 = 0 from rfl] at hx233_0);(try rw [Addr.add_zero'] at hx233_0);(try rw [show ((0 : Int)).toNat = 0 from rfl] at hx233_1);(try rw [show 0 * 2 = 0 from rfl] at hx233_1);(try rw [Addr.add_zero'] at hx233_1);replace hx233_0:=(HB.out.cell (wL_ w _ hx233_0)).trans hx233_0;replace hx233_1:=(HB.out.cell (wL_ w _ hx233_1)).trans hx233_1;replace p233:=eq_true p233;replace q233:=eq_true q233;have p234 : 0 ≤ (x5_1 : Int):=oT_ (by first | (with_reducible assumption) | assumption);have q234 : x5_1 < (l1.length : Int):=oT_ (by first | (with_reducible assumption) | assumption);obtain ⟨ad234,e234,hx234_0,hx234_1⟩:=at_T85 HR1.out x5_1 p234 q234;obtain rfl : ad231 = ad234:=(by injection e234);replace hx234_0:=(HB.out.cell (wL_ w _ hx234_0)).trans hx234_0;replace hx234_1:=(HB.out.cell (wL_ w _ hx234_1)).trans hx234_1;replace p234:=eq_true p234;replace q234:=eq_true q234)))
         go_roundg k1
         case measure=>have:=HK1.out;omega
         case rel=>exact ⟨(wrap64 (x5_1 + 1)),(by first | rfl | (simp;done) | (simp [*];done)),H', ⟨by have:=HK1.out;omega⟩,⟨by exact kZ_ BK230⟩,⟨by exact bZ_ HB⟩⟩
       ·rw [if_neg c9] at H
        exact absurd H (by simp)
      ·rw [if_neg c8] at H
       have c8b0 : decide (0 < x5_1) = false:=decide_eq_false c8
       clear c8
       have H':=aM_ H
       clear H
       have p231 : 0 ≤ (x5_1 : Int):=oT_ (by first | (with_reducible assumption) | assumption)
       have q231 : x5_1 < (l1.length : Int):=oT_ (by first | (with_reducible assumption) | assumption)
       obtain ⟨ad231,e231,hx231_0,hx231_1⟩:=at_T85 HR1.out x5_1 p231 q231
       cases e231
       replace hx231_0:=(HB.out.cell (wL_ w _ hx231_0)).trans hx231_0
       replace hx231_1:=(HB.out.cell (wL_ w _ hx231_1)).trans hx231_1
       replace p231:=eq_true p231
       replace q231:=eq_true q231
       have hcz13_0 : wr.cell? ⟨gb230,0,none⟩ = some (.string a0_0):=(kC_ BK230.out 0).trans rfl
       have hcz13_1 : wr.cell? ⟨gb230,1,none⟩ = some (.slice A0_1 l0_1.length c0_1):=(kC_ BK230.out 1).trans rfl
       have hcz13_2 : wr.cell? ⟨gb230,2,none⟩ = some (.slice A0_2 l0_2.length c0_2):=(kC_ BK230.out 2).trans rfl
       have hcz13_3 : wr.cell? ⟨gb230,3,none⟩ = some (.slice A0_3 l0_3.length c0_3):=(kC_ BK230.out 3).trans rfl
       have hfz13_0:=kF_ BK230.out 0
       have hfz13_1:=kF_ BK230.out 1
       have hfz13_2:=kF_ BK230.out 2
       have hfz13_3:=kF_ BK230.out 3
       go_wp2_with (first | (go_at_call 101;(try simp only [i64_w]);(with_reducible refine (spec_l1In.calls ((rd_T85 l1 x5_1).f0) 0 (wrap64 ((l0_1.length : Int) - 1)) true _ A6.out).mono ?_);rintro e w' ⟨rfl,⟨nd,rfl⟩⟩;(try first | exact ⟨rfl,_,World.drewN_drewN _ _ _⟩ | exact ⟨rfl,_,Eq.trans (World.drewN_drewN _ _ _) (congrArg (World.drewN _) (Nat.add_assoc _ _ _))⟩)))
       repeat (go_quiet (first | (go_at_call 101;(try simp only [i64_w]);(with_reducible refine (spec_l1In.calls ((rd_T85 l1 x5_1).f0) 0 (wrap64 ((l0_1.length : Int) - 1)) true _ A6.out).mono ?_);rintro e w' ⟨rfl,⟨nd,rfl⟩⟩;(try first | exact ⟨rfl,_,World.drewN_drewN _ _ _⟩ | exact ⟨rfl,_,Eq.trans (World.drewN_drewN _ _ _) (congrArg (World.drewN _) (Nat.add_assoc _ _ _))⟩)));try go_wp2_with (first | (go_at_call 101;(try simp only [i64_w]);(with_reducible refine (spec_l1In.calls ((rd_T85 l1 x5_1).f0) 0 (wrap64 ((l0_1.length : Int) - 1)) true _ A6.out).mono ?_);rintro e w' ⟨rfl,⟨nd,rfl⟩⟩;(try first | exact ⟨rfl,_,World.drewN_drewN _ _ _⟩ | exact ⟨rfl,_,Eq.trans (World.drewN_drewN _ _ _) (congrArg (World.drewN _) (Nat.add_assoc _ _ _))⟩))))
       go_roundg k1
       case measure=>have:=HK1.out;omega
       case rel=>exact ⟨(wrap64 (x5_1 + 1)),(by first | rfl | (simp;done) | (simp [*];done)),H', ⟨by have:=HK1.out;omega⟩,⟨by exact kZ_ BK230⟩,⟨by exact bZ_ HB⟩⟩
     ·replace c7:=Bool.eq_false_iff.mpr c7
      subst c7
      have H1 : (some false) = some r:=by rw [if_neg (show ¬ (false = true) by decide)] at H;exact H
      clear H
      have H:=H1
      clear H1
      obtain rfl:=Option.some.inj H
      have p231 : 0 ≤ (x5_1 : Int):=oT_ (by first | (with_reducible assumption) | assumption)
      have q231 : x5_1 < (l1.length : Int):=oT_ (by first | (with_reducible assumption) | assumption)
      obtain ⟨ad231,e231,hx231_0,hx231_1⟩:=at_T85 HR1.out x5_1 p231 q231
      cases e231
      replace hx231_0:=(HB.out.cell (wL_ w _ hx231_0)).trans hx231_0
      replace hx231_1:=(HB.out.cell (wL_ w _ hx231_1)).trans hx231_1
      replace p231:=eq_true p231
      replace q231:=eq_true q231
      have hcz14_0 : wr.cell? ⟨gb230,0,none⟩ = some (.string a0_0):=(kC_ BK230.out 0).trans rfl
      have hcz14_1 : wr.cell? ⟨gb230,1,none⟩ = some (.slice A0_1 l0_1.length c0_1):=(kC_ BK230.out 1).trans rfl
      have hcz14_2 : wr.cell? ⟨gb230,2,none⟩ = some (.slice A0_2 l0_2.length c0_2):=(kC_ BK230.out 2).trans rfl
      have hcz14_3 : wr.cell? ⟨gb230,3,none⟩ = some (.slice A0_3 l0_3.length c0_3):=(kC_ BK230.out 3).trans rfl
      have hfz14_0:=kF_ BK230.out 0
      have hfz14_1:=kF_ BK230.out 1
      have hfz14_2:=kF_ BK230.out 2
      have hfz14_3:=kF_ BK230.out 3
      go_wp2_with (first | (go_at_call 101;(try simp only [i64_w]);(with_reducible refine (spec_l1In.calls ((rd_T85 l1 x5_1).f0) 0 (wrap64 ((l0_1.length : Int) - 1)) false _ A6.out).mono ?_);rintro e w' ⟨rfl,⟨nd,rfl⟩⟩;(try first | exact ⟨rfl,_,World.drewN_drewN _ _ _⟩ | exact ⟨rfl,_,Eq.trans (World.drewN_drewN _ _ _) (congrArg (World.drewN _) (Nat.add_assoc _ _ _))⟩)))
      repeat (go_quiet (first | (go_at_call 101;(try simp only [i64_w]);(with_reducible refine (spec_l1In.calls ((rd_T85 l1 x5_1).f0) 0 (wrap64 ((l0_1.length : Int) - 1)) false _ A6.out).mono ?_);rintro e w' ⟨rfl,⟨nd,rfl⟩⟩;(try first | exact ⟨rfl,_,World.drewN_drewN _ _ _⟩ | exact ⟨rfl,_,Eq.trans (World.drewN_drewN _ _ _) (congrArg (World.drewN _) (Nat.add_assoc _ _ _))⟩)));try go_wp2_with (first | (go_at_call 101;(try simp only [i64_w]);(with_reducible refine (spec_l1In.calls ((rd_T85 l1 x5_1).f0) 0 (wrap64 ((l0_1.length : Int) - 1)) false _ A6.out).mono ?_);rintro e w' ⟨rfl,⟨nd,rfl⟩⟩;(try first | exact ⟨rfl,_,World.drewN_drewN _ _ _⟩ | exact ⟨rfl,_,Eq.trans (World.drewN_drewN _ _ _) (congrArg (World.drewN _) (Nat.add_assoc _ _ _))⟩))))
      go_ret
      exact ⟨by first | rfl | (simp [errW_none,errW_some] <;> rfl) | (simp [*, errW_none,errW_some] <;> rfl),by exact bZ_ HB⟩
    ·rw [if_neg c5] at H
     exact absurd H (by simp)
   ·rw [if_neg c4] at H
    have c4b0 : decide (x5_1 < (l1.length : Int)) = false:=decide_eq_false c4
    clear c4
    replace H:=oB_ H
    obtain ⟨t235,A150,H⟩:=H
    replace H : (some t235) = some r:=H
    have A15:=aM_ A150
    clear A150
    obtain rfl:=Option.some.inj H
    go_wp2_with (first | (go_at_call 101;(with_reducible refine (spec_l1In.calls (l1.length : Int) 1 2 t235 _ A15.out).mono ?_);rintro e w' ⟨rfl,⟨nd,rfl⟩⟩;(try first | exact ⟨rfl,_,World.drewN_drewN _ _ _⟩ | exact ⟨rfl,_,Eq.trans (World.drewN_drewN _ _ _) (congrArg (World.drewN _) (Nat.add_assoc _ _ _))⟩)))
    repeat (go_quiet (first | (go_at_call 101;(with_reducible refine (spec_l1In.calls (l1.length : Int) 1 2 t235 _ A15.out).mono ?_);rintro e w' ⟨rfl,⟨nd,rfl⟩⟩;(try first | exact ⟨rfl,_,World.drewN_drewN _ _ _⟩ | exact ⟨rfl,_,Eq.trans (World.drewN_drewN _ _ _) (congrArg (World.drewN _) (Nat.add_assoc _ _ _))⟩)));try go_wp2_with (first | (go_at_call 101;(with_reducible refine (spec_l1In.calls (l1.length : Int) 1 2 t235 _ A15.out).mono ?_);rintro e w' ⟨rfl,⟨nd,rfl⟩⟩;(try first | exact ⟨rfl,_,World.drewN_drewN _ _ _⟩ | exact ⟨rfl,_,Eq.trans (World.drewN_drewN _ _ _) (congrArg (World.drewN _) (Nat.add_assoc _ _ _))⟩))))
    go_ret
    exact ⟨by first | rfl | (simp [errW_none,errW_some] <;> rfl) | (simp [*, errW_none,errW_some] <;> rfl),by exact bZ_ HB⟩
def spec_l9AllParts.l0 : Nat → Int → ByteArray → List (S82) → List (S85) → List (S69) → Option (Bool)
 | 0,_,_,_,_,_=>none
 | k + 1,x3,x237000,x237001,x237002,x237003=>if x3 < (x237003.length : Int) then (if 0 ≤ x3 then ((spec_l9Parts.f k x237000 x237001 x237002 x237003 ((rd_T69 x237003 x3).f2)).bind fun t238=>(if t238 = true then (spec_l9AllParts.l0 k (wrap64 (x3 + 1)) x237000 x237001 x237002 x237003) else (some false))) else (none)) else ((spec_l9Parts.f k x237000 x237001 x237002 x237003 x237002).bind fun t239=>(some t239))
def spec_l9AllParts.f (k : Nat) (a0_0 : ByteArray) (l0_1 : List (S82)) (l0_2 : List (S85)) (l0_3 : List (S69)) : Option (Bool):=spec_l9AllParts.l0 k 0 a0_0 l0_1 l0_2 l0_3
theorem spec_l9AllParts.mono_l : ∀ k,(∀ y0 y1 y2 y3 y4,LeO (spec_l9AllParts.l0 k y0 y1 y2 y3 y4) (spec_l9AllParts.l0 (k + 1) y0 y1 y2 y3 y4))
 | 0=>fun _ _ _ _ _ r h=>by simp [spec_l9AllParts.l0] at h
 | k + 1=>by
  have ih0:=spec_l9AllParts.mono_l k
  ·intro y0 y1 y2 y3 y4
   unfold spec_l9AllParts.l0
   repeat' first
   | (with_reducible exact ih0 _ _ _ _ _)
   | (with_reducible exact spec_l9Parts.mono _ _ _ _ _ _)
   | (with_reducible exact LeO.refl _)
   | (with_reducible exact LeO.none _)
   | (with_reducible refine LeO.ite ?_ ?_)
   | (with_reducible refine LeO.bind ?_ (fun _=>?_))
   | exact ih0 _ _ _ _ _
   | exact spec_l9Parts.mono _ _ _ _ _ _
   | exact LeO.none _
   | refine LeO.ite ?_ ?_
   | refine LeO.bind ?_ (fun _=>?_)
theorem spec_l9AllParts.mono : ∀ a0 a1 a2 a3 k,LeO (spec_l9AllParts.f k a0 a1 a2 a3) (spec_l9AllParts.f (k + 1) a0 a1 a2 a3):=by
 intro a0 a1 a2 a3 k
 have ih0:=spec_l9AllParts.mono_l k
 unfold spec_l9AllParts.f
 repeat' first
   | (with_reducible exact ih0 _ _ _ _ _)
   | (with_reducible exact spec_l9Parts.mono _ _ _ _ _ _)
   | (with_reducible exact LeO.refl _)
   | (with_reducible exact LeO.none _)
   | (with_reducible refine LeO.ite ?_ ?_)
   | (with_reducible refine LeO.bind ?_ (fun _=>?_))
   | exact ih0 _ _ _ _ _
   | exact spec_l9Parts.mono _ _ _ _ _ _
   | exact LeO.none _
   | refine LeO.ite ?_ ?_
   | refine LeO.bind ?_ (fun _=>?_)
def spec_l9AllParts.T4 : Bool × List (List Nat × List Nat):=(true,[([],[]),([],[]),([1],[1]),([],[]),([2,3],[2,3]),([4],[4]),([5],[5]),([0,6],[0,6]),([7],[7])])
def spec_l9AllParts.B4 : List Nat:=[0,0,2,0,14,30,62,127,255]
theorem spec_l9AllParts.tab4 : rtab .any (opsOf Tryd.f63 4) = spec_l9AllParts.T4:=by kernel_rfl
theorem spec_l9AllParts.bits4 : waitsOk spec_l9AllParts.T4.2 spec_l9AllParts.B4 = true:=by kernel_rfl
set_option maxHeartbeats 8000000 in
set_option maxRecDepth 100000 in
theorem spec_l9AllParts.calls (k : Nat) (a0_0 : ByteArray) (A0_1 : Option Addr) (c0_1 : Nat) (l0_1 : List (S82)) (A0_2 : Option Addr) (c0_2 : Nat) (l0_2 : List (S85)) (A0_3 : Option Addr) (c0_3 : Nat) (l0_3 : List (S69)) (r : Bool) (w : World) (hr0_1 : Kd.C k82 w A0_1 l0_1.length l0_1) (hc0_1 : l0_1.length ≤ c0_1) (hr0_2 : Kd.C k85 w A0_2 l0_2.length l0_2) (hc0_2 : l0_2.length ≤ c0_2) (hr0_3 : Kd.C k69 w A0_3 l0_3.length l0_3) (hc0_3 : l0_3.length ≤ c0_3) (h : spec_l9AllParts.f k a0_0 l0_1 l0_2 l0_3 = some r) :
  Calls Tryd.prog 63 #[.agg #[.string a0_0,.slice A0_1 l0_1.length c0_1,.slice A0_2 l0_2.length c0_2,.slice A0_3 l0_3.length c0_3]] w fun e w'=>e = .returned (.bool r) ∧ Below w.heap.size w w':=by
 have hu35:=Tryd.underlying35
 have HR0_1:=aM_ hr0_1
 have HC0_1:=aM_ hc0_1
 clear hr0_1 hc0_1
 have HR0_2:=aM_ hr0_2
 have HC0_2:=aM_ hc0_2
 clear hr0_2 hc0_2
 have HR0_3:=aM_ hr0_3
 have HC0_3:=aM_ hc0_3
 clear hr0_3 hc0_3
 have HB:=aM_ (Below.refl w.heap.size w)
 have H : (spec_l9AllParts.l0 k 0 a0_0 l0_1 l0_2 l0_3) = some r:=h
 clear h
 have H':=aM_ H
 clear H
 go_enter Tryd.func63,Tryd.ntmps63
 go_wp2_with (first | ((with_reducible refine gate_dst (N:=1) rfl ?_);refine box_event ?hg (N:=1) ?hd (cs:=#[.string a0_0,.slice A0_1 l0_1.length c0_1,.slice A0_2 l0_2.length c0_2,.slice A0_3 l0_3.length c0_3]) (t:=35) ?hr ?_;(case hd=>rfl);(case hg=>rfl);(case hr=>first | (go_simp;done) | (go_simp;rfl));intro gb236 hg w2 hbox hb;have n0_:=aM_ (bT_ (by exact bZ_ HB) hb);have n1_:=aM_ (hbox);have n2_:=aM_ ((by rw [hg];exact (bS_ (by exact bZ_ HB)) : w.heap.size ≤ gb236));have n3_:=aM_ ((by rw [hg];exact (bS_ (by exact bZ_ HB)) : w.heap.size ≤ gb236));clear HB;have HB:=n0_;have BK236:=n1_;have GW236:=n2_;have GE236:=n3_;clear n0_ n1_ n2_ n3_ hb hbox hg))
 (try simp only [Act.put,sI_,sS_,sZ_])
 go_loopg [3] k (fun kq v3 w'=>∃ (x3_1 : Int),v3 = .int .i64 x3_1 ∧ Aside0 (spec_l9AllParts.l0 kq x3_1 a0_0 l0_1 l0_2 l0_3 = some r) ∧ Aside0 (kq ≤ k) ∧ Aside0 (w'.heap[gb236]? = some (.cells #[.string a0_0,(.slice A0_1 l0_1.length c0_1),(.slice A0_2 l0_2.length c0_2),(.slice A0_3 l0_3.length c0_3)] 35 (0,0))) ∧ Aside0 (Below w.heap.size w w'))
 case atStart=>exact ⟨(0),(by first | rfl | (simp;done) | (simp [*];done)),H', ⟨Nat.le_refl _⟩,⟨by exact kZ_ BK236⟩,⟨by exact bZ_ HB⟩⟩
 case round =>
  clear H'
  obtain ⟨x3_1,rfl,HA,HK1,BK236,HB⟩:=hrel
  cases gk with
  | zero=>exact absurd HA.out (by simp [spec_l9AllParts.l0])
  | succ k1 =>
   have H:=HA.out
   clear HA
   simp only [spec_l9AllParts.l0] at H
   by_cases c3 : x3_1 < (l0_3.length : Int)
   ·rw [if_pos c3] at H
    have c3b0 : decide (x3_1 < (l0_3.length : Int)) = true:=decide_eq_true c3
    clear c3
    by_cases c4 : 0 ≤ x3_1
    ·rw [if_pos c4] at H
     have c4b0 : decide (0 ≤ x3_1) = true:=decide_eq_true c4
     clear c4
     replace H:=oB_ H
     obtain ⟨t238,A50,H⟩:=H
     replace H : (if t238 = true then (spec_l9AllParts.l0 k1 (wrap64 (x3_1 + 1)) a0_0 l0_1 l0_2 l0_3) else (some false)) = some r:=H
     have A5:=aM_ A50
     clear A50
     by_cases c6 : t238 = true
     ·subst c6
      have H1 : (spec_l9AllParts.l0 k1 (wrap64 (x3_1 + 1)) a0_0 l0_1 l0_2 l0_3) = some r:=by rw [if_pos rfl] at H;exact H
      clear H
      have H:=H1
      clear H1
      have H':=aM_ H
      clear H
      have hcz7_0 : wr.cell? ⟨gb236,0,none⟩ = some (.string a0_0):=(kC_ BK236.out 0).trans rfl
      have hcz7_1 : wr.cell? ⟨gb236,1,none⟩ = some (.slice A0_1 l0_1.length c0_1):=(kC_ BK236.out 1).trans rfl
      have hcz7_2 : wr.cell? ⟨gb236,2,none⟩ = some (.slice A0_2 l0_2.length c0_2):=(kC_ BK236.out 2).trans rfl
      have hcz7_3 : wr.cell? ⟨gb236,3,none⟩ = some (.slice A0_3 l0_3.length c0_3):=(kC_ BK236.out 3).trans rfl
      have hfz7_0:=kF_ BK236.out 0
      have hfz7_1:=kF_ BK236.out 1
      have hfz7_2:=kF_ BK236.out 2
      have hfz7_3:=kF_ BK236.out 3
      try go_wp2
      have n0_:=aM_ (kD_ BK236.out)
      have n1_:=aM_ (bD_ HB.out)
      clear BK236 HB
      have BK236:=n0_
      have HB:=n1_
      clear n0_ n1_
      have p237 : 0 ≤ (x3_1 : Int):=oT_ (by first | (with_reducible assumption) | assumption)
      have q237 : x3_1 < (l0_3.length : Int):=oT_ (by first | (with_reducible assumption) | assumption)
      obtain ⟨ad237,A237_2,c237_2,e237,hx237_0,hx237_1,hx237_2,hl237_2,hi237_2⟩:=at_T69 HR0_3.out x3_1 p237 q237
      have hw237_2:=hx237_2
      have hw237_1:=hx237_1
      have hw237_0:=hx237_0
      cases e237
      replace hx237_0:=(HB.out.cell (wL_ w _ hx237_0)).trans hx237_0
      replace hx237_1:=(HB.out.cell (wL_ w _ hx237_1)).trans hx237_1
      replace hx237_2:=(HB.out.cell (wL_ w _ hx237_2)).trans hx237_2
      have HR237_2:=aM_ hi237_2
      have HC237_2:=aM_ hl237_2
      clear hi237_2 hl237_2
      replace p237:=eq_true p237
      replace q237:=eq_true q237
      refine start_ (n:=9) (S:=fun w'=>w'.cell? ⟨gb236,0,none⟩ = some (.string a0_0) ∧ w'.cell? ⟨gb236,1,none⟩ = some (.slice A0_1 l0_1.length c0_1) ∧ w'.cell? ⟨gb236,2,none⟩ = some (.slice A0_2 l0_2.length c0_2) ∧ w'.cell? ⟨gb236,3,none⟩ = some (.slice (some ad237) l0_3.length c0_3) ∧ w'.cell? (ad237.add ((x3_1).toNat * 3)) = some (.string ((rd_T69 l0_3 x3_1).f0)) ∧ w'.cell? ⟨(ad237.add ((x3_1).toNat * 3)).block,(ad237.add ((x3_1).toNat * 3)).off + 1,none⟩ = some (.bool ((rd_T69 l0_3 x3_1).f1)) ∧ w'.cell? ⟨(ad237.add ((x3_1).toNat * 3)).block,(ad237.add ((x3_1).toNat * 3)).off + 2,none⟩ = some (.slice A237_2 ((rd_T69 l0_3 x3_1).f2).length c237_2)) (ds:=[]) (tb_ 0 9) (by kernel_rfl) rfl rfl ⟨(kC_ BK236.out 0).trans rfl,(kC_ BK236.out 1).trans rfl,(kC_ BK236.out 2).trans rfl,(kC_ BK236.out 3).trans rfl,((HB.out.cell (wL_ w _ hw237_0)).trans hw237_0),((HB.out.cell (wL_ w _ hw237_1)).trans hw237_1),((HB.out.cell (wL_ w _ hw237_2)).trans hw237_2)⟩ (fun hHeld=>?_);refine with_tabW spec_l9AllParts.tab4 spec_l9AllParts.bits4 (fun HT_ HW_=>?_)
      generalize wr.drew = w8 at BK236 HB HR237_2 hx237_0 hx237_1 hx237_2 hHeld ⊢
      refine pure_ (i:=1) (N:=some 12) (v:=?_) (a':=?_) #[false,true,false,false,false,false,false,false,false] rfl rfl (any_of HT_.out (by kernel_rfl)) (fun _ _ _ h=>h) (Or.inl ⟨by rfl,?_⟩) ?_ ?_
      rotate_left
      ·intro w'
       go_simp
       with_reducible rfl
      rotate_left
      ·simp only [Act.put,sI_,sZ_,sS_,i64_w,i32_w]
       rfl
      refine pure_ (i:=3) (N:=some 14) (v:=?_) (a':=?_) #[false,true,false,true,false,false,false,false,false] rfl rfl (any_of HT_.out (by kernel_rfl)) (fun _ _ _ h=>h) (Or.inl ⟨by rfl,?_⟩) ?_ ?_
      rotate_left
      ·intro w'
       go_simp
       with_reducible rfl
      rotate_left
      ·simp only [Act.put,sI_,sZ_,sS_,i64_w,i32_w]
       rfl
      refine take_ (i:=0) (N:=some 11) (v:=?_) (a':=?_) #[true,true,false,true,false,false,false,false,false] rfl rfl (take_ofW HT_.out HW_.out (by kernel_rfl)) (fun _ _ _ h=>h) (Or.inl ⟨by rfl,?_⟩) hHeld ?_ ?_
      rotate_left
      ·rintro w' ⟨s0,s1,s2,s3,s4,s5,s6⟩
       go_simp
       with_reducible rfl
      rotate_left
      ·simp only [Act.put,sI_,sZ_,sS_,i64_w,i32_w]
       rfl
      refine take_ (i:=2) (N:=some 13) (v:=?_) (a':=?_) (tb_ 4 5) rfl rfl (take_ofW HT_.out HW_.out (by kernel_rfl)) (fun _ _ _ h=>h) (Or.inl ⟨by rfl,?_⟩) hHeld ?_ ?_
      rotate_left
      ·rintro w' ⟨s0,s1,s2,s3,s4,s5,s6⟩
       go_simp
       with_reducible rfl
      rotate_left
      ·simp only [Act.put,sI_,sZ_,sS_,i64_w,i32_w]
       rfl
      refine pure_ (i:=4) (N:=some 15) (v:=?_) (a':=?_) (tb_ 5 4) rfl rfl (any_of HT_.out (by kernel_rfl)) (fun _ _ _ h=>h) (Or.inl ⟨by rfl,?_⟩) ?_ ?_
      rotate_left
      ·intro w'
       go_simp
       with_reducible rfl
      rotate_left
      ·simp only [Act.put,sI_,sZ_,sS_,i64_w,i32_w]
       rfl
      refine pure_ (i:=5) (N:=some 16) (v:=?_) (a':=?_) (tb_ 6 3) rfl rfl (any_of HT_.out (by kernel_rfl)) (fun _ _ _ h=>h) (Or.inl ⟨by rfl,?_⟩) ?_ ?_
      rotate_left
      ·intro w'
       go_simp
       with_reducible rfl
      rotate_left
      ·simp only [Act.put,sI_,sZ_,sS_,i64_w,i32_w]
       rfl
      refine take_ (i:=6) (N:=some 17) (v:=?_) (a':=?_) (tb_ 7 2) rfl rfl (take_ofW HT_.out HW_.out (by kernel_rfl)) (fun _ _ _ h=>h) (Or.inl ⟨by rfl,?_⟩) hHeld ?_ ?_
      rotate_left
      ·rintro w' ⟨s0,s1,s2,s3,s4,s5,s6⟩
       go_simp
       with_reducible rfl
      rotate_left
      ·simp only [Act.put,sI_,sZ_,sS_,i64_w,i32_w]
       rfl
      refine one_ (i:=7) (N:=some 18) (tb_ 8 1) rfl rfl (one_of HT_.out (by kernel_rfl)) (by decide) (fun K hK=>?_)
      refine goes_ Tryd.func109 (by kernel_rfl) rfl #[.agg #[.string a0_0,.slice A0_1 l0_1.length c0_1,.slice A0_2 l0_2.length c0_2,.slice (some ad237) l0_3.length c0_3],.slice A237_2 ((rd_T69 l0_3 x3_1).f2).length c237_2] (by rfl) rfl rfl (by (try simp only [mA_,mC_,mN_]);first | done | rfl | (simp only [lD_,lT_];rfl)) ?_
      with_reducible refine (spec_l9Parts.calls k1 a0_0 _ _ l0_1 _ _ l0_2 _ _ l0_3 _ _ ((rd_T69 l0_3 x3_1).f2) true _ ?side1 ?side2 ?side3 ?side4 ?side5 ?side6 ?side7 ?side8 A5.out).mono ?_
      (case side1=>exact cZ_ HR0_1 HB)
      (case side2=>exact HC0_1.out)
      (case side3=>exact cZ_ HR0_2 HB)
      (case side4=>exact HC0_2.out)
      (case side5=>exact cZ_ HR0_3 HB)
      (case side6=>exact HC0_3.out)
      (case side7=>exact cZ_ HR237_2 HB)
      (case side8=>exact HC237_2.out)
      rintro e w9 ⟨rfl,hb⟩
      refine ⟨_,rfl,?_⟩
      have n0_:=aM_ (blk_below (g:=gb236) (o:=.cells #[.string a0_0,.slice A0_1 l0_1.length c0_1,.slice A0_2 l0_2.length c0_2,.slice (some ad237) l0_3.length c0_3] 35 (0,0)) (by exact kZ_ BK236) hb)
      have n1_:=aM_ (bT_ (by exact bZ_ HB) hb)
      clear BK236 HB
      have BK236:=n0_
      have HB:=n1_
      clear n0_ n1_ hb
      skip
      skip
      skip
      refine hK.out _ _ ⟨(kC_ BK236.out 0).trans rfl,(kC_ BK236.out 1).trans rfl,(kC_ BK236.out 2).trans rfl,(kC_ BK236.out 3).trans rfl,((HB.out.cell (wL_ w _ hw237_0)).trans hw237_0),((HB.out.cell (wL_ w _ hw237_1)).trans hw237_1),((HB.out.cell (wL_ w _ hw237_2)).trans hw237_2)⟩ (fun hHeld=>?_)
      clear hK K
      refine norm_ (a':=?_) ?_ ?_
      rotate_left
      ·show Act.put _ (some 18) _ = _
       simp only [Act.put,sI_,sZ_,sS_,i64_w,i32_w]
       rfl
      refine pure_ (i:=8) (N:=some 19) (v:=?_) (a':=?_) (tb_ 9 0) rfl rfl (any_of HT_.out (by kernel_rfl)) (fun _ _ _ h=>h) (Or.inl ⟨by rfl,?_⟩) ?_ ?_
      rotate_left
      ·intro w'
       go_simp
       with_reducible rfl
      rotate_left
      ·simp only [Act.put,sI_,sZ_,sS_,i64_w,i32_w]
       rfl
      refine done_ (done_of HT_.out (by kernel_rfl)) ?_
      try go_wp2
      go_roundg k1
      case measure=>have:=HK1.out;omega
      case rel=>exact ⟨(wrap64 (x3_1 + 1)),(by first | rfl | (simp;done) | (simp [*];done)),H', ⟨by have:=HK1.out;omega⟩,⟨by exact kZ_ BK236⟩,⟨by exact bZ_ HB⟩⟩
     ·replace c6:=Bool.eq_false_iff.mpr c6
      subst c6
      have H1 : (some false) = some r:=by rw [if_neg (show ¬ (false = true) by decide)] at H;exact H
      clear H
      have H:=H1
      clear H1
      obtain rfl:=Option.some.inj H
      have hcz10_0 : wr.cell? ⟨gb236,0,none⟩ = some (.string a0_0):=(kC_ BK236.out 0).trans rfl
      have hcz10_1 : wr.cell? ⟨gb236,1,none⟩ = some (.slice A0_1 l0_1.length c0_1):=(kC_ BK236.out 1).trans rfl
      have hcz10_2 : wr.cell? ⟨gb236,2,none⟩ = some (.slice A0_2 l0_2.length c0_2):=(kC_ BK236.out 2).trans rfl
      have hcz10_3 : wr.cell? ⟨gb236,3,none⟩ = some (.slice A0_3 l0_3.length c0_3):=(kC_ BK236.out 3).trans rfl
      have hfz10_0:=kF_ BK236.out 0
      have hfz10_1:=kF_ BK236.out 1
      have hfz10_2:=kF_ BK236.out 2
      have hfz10_3:=kF_ BK236.out 3
      try go_wp2
      have n0_:=aM_ (kD_ BK236.out)
      have n1_:=aM_ (bD_ HB.out)
      clear BK236 HB
      have BK236:=n0_
      have HB:=n1_
      clear n0_ n1_
      have p237 : 0 ≤ (x3_1 : Int):=oT_ (by first | (with_reducible assumption) | assumption)
      have q237 : x3_1 < (l0_3.length : Int):=oT_ (by first | (with_reducible assumption) | assumption)
      obtain ⟨ad237,A237_2,c237_2,e237,hx237_0,hx237_1,hx237_2,hl237_2,hi237_2⟩:=at_T69 HR0_3.out x3_1 p237 q237
      have hw237_2:=hx237_2
      have hw237_1:=hx237_1
      have hw237_0:=hx237_0
      cases e237
      replace hx237_0:=(HB.out.cell (wL_ w _ hx237_0)).trans hx237_0
      replace hx237_1:=(HB.out.cell (wL_ w _ hx237_1)).trans hx237_1
      replace hx237_2:=(HB.out.cell (wL_ w _ hx237_2)).trans hx237_2
      have HR237_2:=aM_ hi237_2
      have HC237_2:=aM_ hl237_2
      clear hi237_2 hl237_2
      replace p237:=eq_true p237
      replace q237:=eq_true q237
      refine start_ (n:=9) (S:=fun w'=>w'.cell? ⟨gb236,0,none⟩ = some (.string a0_0) ∧ w'.cell? ⟨gb236,1,none⟩ = some (.slice A0_1 l0_1.length c0_1) ∧ w'.cell? ⟨gb236,2,none⟩ = some (.slice A0_2 l0_2.length c0_2) ∧ w'.cell? ⟨gb236,3,none⟩ = some (.slice (some ad237) l0_3.length c0_3) ∧ w'.cell? (ad237.add ((x3_1).toNat * 3)) = some (.string ((rd_T69 l0_3 x3_1).f0)) ∧ w'.cell? ⟨(ad237.add ((x3_1).toNat * 3)).block,(ad237.add ((x3_1).toNat * 3)).off + 1,none⟩ = some (.bool ((rd_T69 l0_3 x3_1).f1)) ∧ w'.cell? ⟨(ad237.add ((x3_1).toNat * 3)).block,(ad237.add ((x3_1).toNat * 3)).off + 2,none⟩ = some (.slice A237_2 ((rd_T69 l0_3 x3_1).f2).length c237_2)) (ds:=[]) (tb_ 0 9) (by kernel_rfl) rfl rfl ⟨(kC_ BK236.out 0).trans rfl,(kC_ BK236.out 1).trans rfl,(kC_ BK236.out 2).trans rfl,(kC_ BK236.out 3).trans rfl,((HB.out.cell (wL_ w _ hw237_0)).trans hw237_0),((HB.out.cell (wL_ w _ hw237_1)).trans hw237_1),((HB.out.cell (wL_ w _ hw237_2)).trans hw237_2)⟩ (fun hHeld=>?_);refine with_tabW spec_l9AllParts.tab4 spec_l9AllParts.bits4 (fun HT_ HW_=>?_)
      generalize wr.drew = w11 at BK236 HB HR237_2 hx237_0 hx237_1 hx237_2 hHeld ⊢
      refine pure_ (i:=1) (N:=some 12) (v:=?_) (a':=?_) #[false,true,false,false,false,false,false,false,false] rfl rfl (any_of HT_.out (by kernel_rfl)) (fun _ _ _ h=>h) (Or.inl ⟨by rfl,?_⟩) ?_ ?_
      rotate_left
      ·intro w'
       go_simp
       with_reducible rfl
      rotate_left
      ·simp only [Act.put,sI_,sZ_,sS_,i64_w,i32_w]
       rfl
      refine pure_ (i:=3) (N:=some 14) (v:=?_) (a':=?_) #[false,true,false,true,false,false,false,false,false] rfl rfl (any_of HT_.out (by kernel_rfl)) (fun _ _ _ h=>h) (Or.inl ⟨by rfl,?_⟩) ?_ ?_
      rotate_left
      ·intro w'
       go_simp
       with_reducible rfl
      rotate_left
      ·simp only [Act.put,sI_,sZ_,sS_,i64_w,i32_w]
       rfl
      refine take_ (i:=0) (N:=some 11) (v:=?_) (a':=?_) #[true,true,false,true,false,false,false,false,false] rfl rfl (take_ofW HT_.out HW_.out (by kernel_rfl)) (fun _ _ _ h=>h) (Or.inl ⟨by rfl,?_⟩) hHeld ?_ ?_
      rotate_left
      ·rintro w' ⟨s0,s1,s2,s3,s4,s5,s6⟩
       go_simp
       with_reducible rfl
      rotate_left
      ·simp only [Act.put,sI_,sZ_,sS_,i64_w,i32_w]
       rfl
      refine take_ (i:=2) (N:=some 13) (v:=?_) (a':=?_) (tb_ 4 5) rfl rfl (take_ofW HT_.out HW_.out (by kernel_rfl)) (fun _ _ _ h=>h) (Or.inl ⟨by rfl,?_⟩) hHeld ?_ ?_
      rotate_left
      ·rintro w' ⟨s0,s1,s2,s3,s4,s5,s6⟩
       go_simp
       with_reducible rfl
      rotate_left
      ·simp only [Act.put,sI_,sZ_,sS_,i64_w,i32_w]
       rfl
      refine pure_ (i:=4) (N:=some 15) (v:=?_) (a':=?_) (tb_ 5 4) rfl rfl (any_of HT_.out (by kernel_rfl)) (fun _ _ _ h=>h) (Or.inl ⟨by rfl,?_⟩) ?_ ?_
      rotate_left
      ·intro w'
       go_simp
       with_reducible rfl
      rotate_left
      ·simp only [Act.put,sI_,sZ_,sS_,i64_w,i32_w]
       rfl
      refine pure_ (i:=5) (N:=some 16) (v:=?_) (a':=?_) (tb_ 6 3) rfl rfl (any_of HT_.out (by kernel_rfl)) (fun _ _ _ h=>h) (Or.inl ⟨by rfl,?_⟩) ?_ ?_
      rotate_left
      ·intro w'
       go_simp
       with_reducible rfl
      rotate_left
      ·simp only [Act.put,sI_,sZ_,sS_,i64_w,i32_w]
       rfl
      refine take_ (i:=6) (N:=some 17) (v:=?_) (a':=?_) (tb_ 7 2) rfl rfl (take_ofW HT_.out HW_.out (by kernel_rfl)) (fun _ _ _ h=>h) (Or.inl ⟨by rfl,?_⟩) hHeld ?_ ?_
      rotate_left
      ·rintro w' ⟨s0,s1,s2,s3,s4,s5,s6⟩
       go_simp
       with_reducible rfl
      rotate_left
      ·simp only [Act.put,sI_,sZ_,sS_,i64_w,i32_w]
       rfl
      refine one_ (i:=7) (N:=some 18) (tb_ 8 1) rfl rfl (one_of HT_.out (by kernel_rfl)) (by decide) (fun K hK=>?_)
      refine goes_ Tryd.func109 (by kernel_rfl) rfl #[.agg #[.string a0_0,.slice A0_1 l0_1.length c0_1,.slice A0_2 l0_2.length c0_2,.slice (some ad237) l0_3.length c0_3],.slice A237_2 ((rd_T69 l0_3 x3_1).f2).length c237_2] (by rfl) rfl rfl (by (try simp only [mA_,mC_,mN_]);first | done | rfl | (simp only [lD_,lT_];rfl)) ?_
      with_reducible refine (spec_l9Parts.calls k1 a0_0 _ _ l0_1 _ _ l0_2 _ _ l0_3 _ _ ((rd_T69 l0_3 x3_1).f2) false _ ?side1 ?side2 ?side3 ?side4 ?side5 ?side6 ?side7 ?side8 A5.out).mono ?_
      (case side1=>exact cZ_ HR0_1 HB)
      (case side2=>exact HC0_1.out)
      (case side3=>exact cZ_ HR0_2 HB)
      (case side4=>exact HC0_2.out)
      (case side5=>exact cZ_ HR0_3 HB)
      (case side6=>exact HC0_3.out)
      (case side7=>exact cZ_ HR237_2 HB)
      (case side8=>exact HC237_2.out)
      rintro e w12 ⟨rfl,hb⟩
      refine ⟨_,rfl,?_⟩
      have n0_:=aM_ (blk_below (g:=gb236) (o:=.cells #[.string a0_0,.slice A0_1 l0_1.length c0_1,.slice A0_2 l0_2.length c0_2,.slice (some ad237) l0_3.length c0_3] 35 (0,0)) (by exact kZ_ BK236) hb)
      have n1_:=aM_ (bT_ (by exact bZ_ HB) hb)
      clear BK236 HB
      have BK236:=n0_
      have HB:=n1_
      clear n0_ n1_ hb
      skip
      skip
      skip
      refine hK.out _ _ ⟨(kC_ BK236.out 0).trans rfl,(kC_ BK236.out 1).trans rfl,(kC_ BK236.out 2).trans rfl,(kC_ BK236.out 3).trans rfl,((HB.out.cell (wL_ w _ hw237_0)).trans hw237_0),((HB.out.cell (wL_ w _ hw237_1)).trans hw237_1),((HB.out.cell (wL_ w _ hw237_2)).trans hw237_2)⟩ (fun hHeld=>?_)
      clear hK K
      refine norm_ (a':=?_) ?_ ?_
      rotate_left
      ·show Act.put _ (some 18) _ = _
       simp only [Act.put,sI_,sZ_,sS_,i64_w,i32_w]
       rfl
      refine pure_ (i:=8) (N:=some 19) (v:=?_) (a':=?_) (tb_ 9 0) rfl rfl (any_of HT_.out (by kernel_rfl)) (fun _ _ _ h=>h) (Or.inl ⟨by rfl,?_⟩) ?_ ?_
      rotate_left
      ·intro w'
       go_simp
       with_reducible rfl
      rotate_left
      ·simp only [Act.put,sI_,sZ_,sS_,i64_w,i32_w]
       rfl
      refine done_ (done_of HT_.out (by kernel_rfl)) ?_
      try go_wp2
      go_ret
      exact ⟨by first | rfl | (simp [errW_none,errW_some] <;> rfl) | (simp [*, errW_none,errW_some] <;> rfl),by exact bZ_ HB⟩
    ·rw [if_neg c4] at H
     exact absurd H (by simp)
   ·rw [if_neg c3] at H
    have c3b0 : decide (x3_1 < (l0_3.length : Int)) = false:=decide_eq_false c3
    clear c3
    replace H:=oB_ H
    obtain ⟨t239,A130,H⟩:=H
    replace H : (some t239) = some r:=H
    have A13:=aM_ A130
    clear A130
    obtain rfl:=Option.some.inj H
    have hcz14_0 : wr.cell? ⟨gb236,0,none⟩ = some (.string a0_0):=(kC_ BK236.out 0).trans rfl
    have hcz14_1 : wr.cell? ⟨gb236,1,none⟩ = some (.slice A0_1 l0_1.length c0_1):=(kC_ BK236.out 1).trans rfl
    have hcz14_2 : wr.cell? ⟨gb236,2,none⟩ = some (.slice A0_2 l0_2.length c0_2):=(kC_ BK236.out 2).trans rfl
    have hcz14_3 : wr.cell? ⟨gb236,3,none⟩ = some (.slice A0_3 l0_3.length c0_3):=(kC_ BK236.out 3).trans rfl
    have hfz14_0:=kF_ BK236.out 0
    have hfz14_1:=kF_ BK236.out 1
    have hfz14_2:=kF_ BK236.out 2
    have hfz14_3:=kF_ BK236.out 3
    go_wp2_with (first | ((with_reducible refine gate_callee (f:=109) rfl ?_);refine goesL_ (some 23) rfl rfl Tryd.func109 (by kernel_rfl) rfl #[.agg #[.string a0_0,.slice A0_1 l0_1.length c0_1,.slice A0_2 l0_2.length c0_2,.slice A0_3 l0_3.length c0_3],.slice A0_2 l0_2.length c0_2] rfl (by (try simp only [mA_,mC_,mN_]);first | done | rfl | (simp only [lD_,lT_];rfl)) ?_;(with_reducible refine (spec_l9Parts.calls k1 a0_0 _ _ l0_1 _ _ l0_2 _ _ l0_3 _ _ l0_2 t239 _ ?side1 ?side2 ?side3 ?side4 ?side5 ?side6 ?side7 ?side8 A13.out).mono ?_);(case side1=>exact cZ_ HR0_1 HB);(case side2=>exact HC0_1.out);(case side3=>exact cZ_ HR0_2 HB);(case side4=>exact HC0_2.out);(case side5=>exact cZ_ HR0_3 HB);(case side6=>exact HC0_3.out);(case side7=>exact cZ_ HR0_2 HB);(case side8=>exact HC0_2.out);rintro e w15 ⟨rfl,hb⟩;refine ⟨_,rfl,?_⟩;have n0_:=aM_ (blk_below (g:=gb236) (o:=.cells #[.string a0_0,.slice A0_1 l0_1.length c0_1,.slice A0_2 l0_2.length c0_2,.slice A0_3 l0_3.length c0_3] 35 (0,0)) (by exact kZ_ BK236) hb);have n1_:=aM_ (bT_ (by exact bZ_ HB) hb);clear BK236 HB;have BK236:=n0_;have HB:=n1_;clear n0_ n1_ hb))
    go_ret
    exact ⟨by first | rfl | (simp [errW_none,errW_some] <;> rfl) | (simp [*, errW_none,errW_some] <;> rfl),by exact bZ_ HB⟩
end Go.Proofs.YtipehkeabnfngaaDoor.PFnExactDefsText
