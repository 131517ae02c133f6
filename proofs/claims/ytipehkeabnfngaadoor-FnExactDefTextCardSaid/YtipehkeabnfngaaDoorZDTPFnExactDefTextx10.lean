import Derived.Test.YtipehkeabnfngaaDoorZDTPFnExactDefTextx0
import Derived.Test.YtipehkeabnfngaaDoorZDTPFnExactDefTextx7
namespace Go.Proofs.YtipehkeabnfngaaDoor.PFnExactDefText
open Go.RowKit Go.Proofs.YtipehkeabnfngaaDoorW.PrintWords Go.Proofs.YtipehkeabnfngaaDoorW.PrintLast Go.Proofs.YtipehkeabnfngaaDoorW.PrintMore Go.Proofs.YtipehkeabnfngaaDoor.Xtra
attribute [local go_sem] max2_int min2_int max_two min_two max_three min_three max_four min_four str_leq str_gtr str_geq setCell_drewN cell_set2 cell_set3   -- for this text's walks alone
set_option linter.unusedVariables false
set_option linter.unusedSimpArgs false
def spec_l9Parts.l0 : Nat → List (S85) → Int → ByteArray → List (S82) → List (S85) → List (S69) → Option (Bool)
 | 0,_,_,_,_,_,_=>none
 | k + 1,x1,x5,x212000,x212001,x212002,x212003=>if x5 < (x1.length : Int) then (if 0 ≤ x5 then ((spec_l1In.f ((rd_T85 x1 x5).f0) 0 (wrap64 ((x212001.length : Int) - 1))).bind fun t213=>(if t213 = true then (if x5 > 0 then (if 0 < (x1.length : Int) then (if ((rd_T85 x1 0).f0) = ((rd_T85 x1 x5).f0) then (some false) else (spec_l9Parts.l0 k x1 (wrap64 (x5 + 1)) x212000 x212001 x212002 x212003)) else (none)) else (spec_l9Parts.l0 k x1 (wrap64 (x5 + 1)) x212000 x212001 x212002 x212003)) else (some false))) else (none)) else ((spec_l1In.f (x1.length : Int) 1 2).bind fun t216=>(some t216))
def spec_l9Parts.f (k : Nat) (a0_0 : ByteArray) (l0_1 : List (S82)) (l0_2 : List (S85)) (l0_3 : List (S69)) (l1 : List (S85)) : Option (Bool):=spec_l9Parts.l0 k l1 0 a0_0 l0_1 l0_2 l0_3
theorem spec_l9Parts.mono_l : ∀ k,(∀ y0 y1 y2 y3 y4 y5,LeO (spec_l9Parts.l0 k y0 y1 y2 y3 y4 y5) (spec_l9Parts.l0 (k + 1) y0 y1 y2 y3 y4 y5))
 | 0=>fun _ _ _ _ _ _ r h=>by simp [spec_l9Parts.l0] at h
 | k + 1=>by
  have ih0:=spec_l9Parts.mono_l k
  ·intro y0 y1 y2 y3 y4 y5
   unfold spec_l9Parts.l0
   repeat' first
   | (with_reducible exact ih0 _ _ _ _ _ _)
   | (with_reducible exact LeO.refl _)
   | (with_reducible exact LeO.none _)
   | (with_reducible refine LeO.ite ?_ ?_)
   | (with_reducible refine LeO.bind ?_ (fun _=>?_))
   | exact ih0 _ _ _ _ _ _
   | exact LeO.none _
   | refine LeO.ite ?_ ?_
   | refine LeO.bind ?_ (fun _=>?_)
theorem spec_l9Parts.mono : ∀ a0 a1 a2 a3 a4 k,LeO (spec_l9Parts.f k a0 a1 a2 a3 a4) (spec_l9Parts.f (k + 1) a0 a1 a2 a3 a4):=by
 intro a0 a1 a2 a3 a4 k
 have ih0:=spec_l9Parts.mono_l k
 unfold spec_l9Parts.f
 repeat' first
   | (with_reducible exact ih0 _ _ _ _ _ _)
   | (with_reducible exact LeO.refl _)
   | (with_reducible exact LeO.none _)
   | (with_reducible refine LeO.ite ?_ ?_)
   | (with_reducible refine LeO.bind ?_ (fun _=>?_))
   | exact ih0 _ _ _ _ _ _
   | exact LeO.none _
   | refine LeO.ite ?_ ?_
   | refine LeO.bind ?_ (fun _=>?_)
set_option maxHeartbeats 8000000 in
set_option maxRecDepth 100000 in
theorem spec_l9Parts.calls (k : Nat) (a0_0 : ByteArray) (A0_1 : Option Addr) (c0_1 : Nat) (l0_1 : List (S82)) (A0_2 : Option Addr) (c0_2 : Nat) (l0_2 : List (S85)) (A0_3 : Option Addr) (c0_3 : Nat) (l0_3 : List (S69)) (A1 : Option Addr) (c1 : Nat) (l1 : List (S85)) (r : Bool) (w : World) (hr0_1 : Kd.C k82 w A0_1 l0_1.length l0_1) (hc0_1 : l0_1.length ≤ c0_1) (hr0_2 : Kd.C k85 w A0_2 l0_2.length l0_2) (hc0_2 : l0_2.length ≤ c0_2) (hr0_3 : Kd.C k69 w A0_3 l0_3.length l0_3) (hc0_3 : l0_3.length ≤ c0_3) (hr1 : Kd.C k85 w A1 l1.length l1) (hc1 : l1.length ≤ c1) (h : spec_l9Parts.f k a0_0 l0_1 l0_2 l0_3 l1 = some r) :
  Calls Tryd.prog 109 #[.agg #[.string a0_0,.slice A0_1 l0_1.length c0_1,.slice A0_2 l0_2.length c0_2,.slice A0_3 l0_3.length c0_3],.slice A1 l1.length c1] w fun e w'=>e = .returned (.bool r) ∧ Below w.heap.size w w':=by
 have hu35:=Tryd.underlying35
 have HR0_1:=aM_ hr0_1
 have HC0_1:=aM_ hc0_1
 clear hr0_1 hc0_1
 have HR0_2:=aM_ hr0_2
 have HC0_2:=aM_ hc0_2
 clear hr0_2 hc0_2
 have HR0_3:=aM_ hr0_3
 have HC0_3:=aM_ hc0_3
 clear hr0_3 hc0_3
 have HR1:=aM_ hr1
 have HC1:=aM_ hc1
 clear hr1 hc1
 have HB:=aM_ (Below.refl w.heap.size w)
 have H : (spec_l9Parts.l0 k l1 0 a0_0 l0_1 l0_2 l0_3) = some r:=h
 clear h
 have H':=aM_ H
 clear H
 go_enter Tryd.func109,Tryd.ntmps109
 go_wp2_with (first | ((with_reducible refine gate_dst (N:=2) rfl ?_);refine box_event ?hg (N:=2) ?hd (cs:=#[.string a0_0,.slice A0_1 l0_1.length c0_1,.slice A0_2 l0_2.length c0_2,.slice A0_3 l0_3.length c0_3]) (t:=35) ?hr ?_;(case hd=>rfl);(case hg=>rfl);(case hr=>first | (go_simp;done) | (go_simp;rfl));intro gb211 hg w3 hbox hb;have n0_:=aM_ (bT_ (by exact bZ_ HB) hb);have n1_:=aM_ (hbox);have n2_:=aM_ ((by rw [hg];exact (bS_ (by exact bZ_ HB)) : w.heap.size ≤ gb211));have n3_:=aM_ ((by rw [hg];exact (bS_ (by exact bZ_ HB)) : w.heap.size ≤ gb211));clear HB;have HB:=n0_;have BK211:=n1_;have GW211:=n2_;have GE211:=n3_;clear n0_ n1_ n2_ n3_;clear hb hbox hg))
 repeat (go_quiet (first | ((with_reducible refine gate_dst (N:=2) rfl ?_);refine box_event ?hg (N:=2) ?hd (cs:=#[.string a0_0,.slice A0_1 l0_1.length c0_1,.slice A0_2 l0_2.length c0_2,.slice A0_3 l0_3.length c0_3]) (t:=35) ?hr ?_;(case hd=>rfl);(case hg=>rfl);(case hr=>first | (go_simp;done) | (go_simp;rfl));intro gb211 hg w3 hbox hb;have n0_:=aM_ (bT_ (by exact bZ_ HB) hb);have n1_:=aM_ (hbox);have n2_:=aM_ ((by rw [hg];exact (bS_ (by exact bZ_ HB)) : w.heap.size ≤ gb211));have n3_:=aM_ ((by rw [hg];exact (bS_ (by exact bZ_ HB)) : w.heap.size ≤ gb211));clear HB;have HB:=n0_;have BK211:=n1_;have GW211:=n2_;have GE211:=n3_;clear n0_ n1_ n2_ n3_;clear hb hbox hg));try go_wp2_with (first | ((with_reducible refine gate_dst (N:=2) rfl ?_);refine box_event ?hg (N:=2) ?hd (cs:=#[.string a0_0,.slice A0_1 l0_1.length c0_1,.slice A0_2 l0_2.length c0_2,.slice A0_3 l0_3.length c0_3]) (t:=35) ?hr ?_;(case hd=>rfl);(case hg=>rfl);(case hr=>first | (go_simp;done) | (go_simp;rfl));intro gb211 hg w3 hbox hb;have n0_:=aM_ (bT_ (by exact bZ_ HB) hb);have n1_:=aM_ (hbox);have n2_:=aM_ ((by rw [hg];exact (bS_ (by exact bZ_ HB)) : w.heap.size ≤ gb211));have n3_:=aM_ ((by rw [hg];exact (bS_ (by exact bZ_ HB)) : w.heap.size ≤ gb211));clear HB;have HB:=n0_;have BK211:=n1_;have GW211:=n2_;have GE211:=n3_;clear n0_ n1_ n2_ n3_;clear hb hbox hg)))
 (try simp only [Act.put,sI_,sS_,sZ_])
 go_loopg [5] k (fun kq v5 w'=>∃ (x5_1 : Int),v5 = .int .i64 x5_1 ∧ Aside0 (spec_l9Parts.l0 kq l1 x5_1 a0_0 l0_1 l0_2 l0_3 = some r) ∧ Aside0 (kq ≤ k) ∧ Aside0 (w'.heap[gb211]? = some (.cells #[.string a0_0,(.slice A0_1 l0_1.length c0_1),(.slice A0_2 l0_2.length c0_2),(.slice A0_3 l0_3.length c0_3)] 35 (0,0))) ∧ Aside0 (Below w.heap.size w w'))
 case atStart=>exact ⟨(0),(by first | rfl | (simp;done) | (simp [*];done)),H', ⟨Nat.le_refl _⟩,⟨by exact kZ_ BK211⟩,⟨by exact bZ_ HB⟩⟩
 case round =>
  clear H'
  try clear c1
  try clear p2
  obtain ⟨x5_1,rfl,HA,HK1,BK211,HB⟩:=hrel
  cases gk with
  | zero=>exact absurd HA.out (by simp [spec_l9Parts.l0])
  | succ k1 =>
   have H:=HA.out
   clear HA
   simp only [spec_l9Parts.l0] at H
   by_cases c4 : x5_1 < (l1.length : Int)
   ·rw [if_pos c4] at H
    have c4b0 : decide (x5_1 < (l1.length : Int)) = true:=decide_eq_true c4
    clear c4
    by_cases c5 : 0 ≤ x5_1
    ·rw [if_pos c5] at H
     have c5b0 : decide (0 ≤ x5_1) = true:=decide_eq_true c5
     clear c5
     replace H:=oB_ H
     obtain ⟨t213,A60,H⟩:=H
     replace H : (if t213 = true then (if x5_1 > 0 then (if 0 < (l1.length : Int) then (if ((rd_T85 l1 0).f0) = ((rd_T85 l1 x5_1).f0) then (some false) else (spec_l9Parts.l0 k1 l1 (wrap64 (x5_1 + 1)) a0_0 l0_1 l0_2 l0_3)) else (none)) else (spec_l9Parts.l0 k1 l1 (wrap64 (x5_1 + 1)) a0_0 l0_1 l0_2 l0_3)) else (some false)) = some r:=H
     have A6:=aM_ A60
     clear A60
     by_cases c7 : t213 = true
     ·subst c7
      have H1 : (if x5_1 > 0 then (if 0 < (l1.length : Int) then (if ((rd_T85 l1 0).f0) = ((rd_T85 l1 x5_1).f0) then (some false) else (spec_l9Parts.l0 k1 l1 (wrap64 (x5_1 + 1)) a0_0 l0_1 l0_2 l0_3)) else (none)) else (spec_l9Parts.l0 k1 l1 (wrap64 (x5_1 + 1)) a0_0 l0_1 l0_2 l0_3)) = some r:=by rw [if_pos rfl] at H;exact H
      clear H
      have H:=H1
      clear H1
      by_cases c8 : x5_1 > 0
      ·rw [if_pos c8] at H
       have c8b0 : decide (0 < x5_1) = true:=decide_eq_true c8
       clear c8
       by_cases c9 : 0 < (l1.length : Int)
       ·rw [if_pos c9] at H
        have c9b0 : decide (0 < (l1.length : Int)) = true:=decide_eq_true c9
        have c9b1 : decide (0 < l1.length) = true:=decide_eq_true (by omega)
        clear c9
        by_cases c10 : ((rd_T85 l1 0).f0) = ((rd_T85 l1 x5_1).f0)
        ·rw [if_pos c10] at H
         have c10b0 : (((rd_T85 l1 0).f0) == ((rd_T85 l1 x5_1).f0)) = true:=beq_iff_eq.mpr c10
         have c10b1 : (((rd_T85 l1 0).f0) != ((rd_T85 l1 x5_1).f0)) = false:=bne_eq_false_iff_eq.mpr c10
         clear c10
         obtain rfl:=Option.some.inj H
         have p212 : 0 ≤ (x5_1 : Int):=oT_ (by first | (with_reducible assumption) | assumption)
         have q212 : x5_1 < (l1.length : Int):=oT_ (by first | (with_reducible assumption) | assumption)
         obtain ⟨ad212,e212,hx212_0,hx212_1⟩:=at_T85 HR1.out x5_1 p212 q212
         cases e212
         replace hx212_0:=(HB.out.cell (wL_ w _ hx212_0)).trans hx212_0
         replace hx212_1:=(HB.out.cell (wL_ w _ hx212_1)).trans hx212_1
         replace p212:=eq_true p212
         replace q212:=eq_true q212
         have hcz11_0 : wr.cell? ⟨gb211,0,none⟩ = some (.string a0_0):=(kC_ BK211.out 0).trans rfl
         have hcz11_1 : wr.cell? ⟨gb211,1,none⟩ = some (.slice A0_1 l0_1.length c0_1):=(kC_ BK211.out 1).trans rfl
         have hcz11_2 : wr.cell? ⟨gb211,2,none⟩ = some (.slice A0_2 l0_2.length c0_2):=(kC_ BK211.out 2).trans rfl
         have hcz11_3 : wr.cell? ⟨gb211,3,none⟩ = some (.slice A0_3 l0_3.length c0_3):=(kC_ BK211.out 3).trans rfl
         have hfz11_0:=kF_ BK211.out 0
         have hfz11_1:=kF_ BK211.out 1
         have hfz11_2:=kF_ BK211.out 2
         have hfz11_3:=kF_ BK211.out 3
         go_wp2_with (first | (go_at_call 101;(try simp only [i64_w]);(with_reducible refine (spec_l1In.calls ((rd_T85 l1 x5_1).f0) 0 (wrap64 ((l0_1.length : Int) - 1)) true _ A6.out).mono ?_);rintro e w' ⟨rfl,⟨nd,rfl⟩⟩;(try first | exact ⟨rfl,_,World.drewN_drewN _ _ _⟩ | exact ⟨rfl,_,Eq.trans (World.drewN_drewN _ _ _) (congrArg (World.drewN _) (Nat.add_assoc _ _ _))⟩);have p214 : 0 ≤ (0 : Int):=(by omega);have q214 : 0 < (l1.length : Int):=oT_ (by first | (with_reducible assumption) | assumption);obtain ⟨ad214,e214,hx214_0,hx214_1⟩:=at_T85 HR1.out 0 p214 q214;obtain rfl : ad212 = ad214:=(by injection e214);have qi214 : (0 < l1.length) = True:=eq_true (by omega);(try rw [show ((0 : Int)).toNat = 0 from rfl] at hx214_0);(try rw [show 0 * 2 = 0 from rfl] at hx214_0);(try rw [Addr.add_zero'] at hx214_0);(try rw [show ((0 : Int)).toNat = 0 from rfl] at hx214_1);(try rw [show 0 * 2 = 0 from rfl] at hx214_1);(try rw [Addr.add_zero'] at hx214_1);replace hx214_0:=(HB.out.cell (wL_ w _ hx214_0)).trans hx214_0;replace hx214_1:=(HB.out.cell (wL_ w _ hx214_1)).trans hx214_1;replace p214:=eq_true p214;replace q214:=eq_true q214;have p215 : 0 ≤ (x5_1 : Int):=oT_ (by first | (with_reducible assumption) | assumption);have q215 : x5_1 < (l1.length : Int):=oT_ (by first | (with_reducible assumption) | assumption);obtain ⟨ad215,e215,hx215_0,hx215_1⟩:=at_T85 HR1.out x5_1 p215 q215;obtain rfl : ad212 = ad215:=(by injection e215);replace hx215_0:=(HB.out.cell (wL_ w _ hx215_0)).trans hx215_0;replace hx215_1:=(HB.out.cell (wL_ w _ hx215_1)).trans hx215_1;replace p215:=eq_true p215;replace q215:=eq_true q215))
         repeat (go_quiet (first | (go_at_call 101;(try simp only [i64_w]);(with_reducible refine (spec_l1In.calls ((rd_T85 l1 x5_1).f0) 0 (wrap64 ((l0_1.length : Int) - 1)) true _ A6.out).mono ?_);rintro e w' ⟨rfl,⟨nd,rfl⟩⟩;(try first | exact ⟨rfl,_,World.drewN_drewN _ _ _⟩ | exact ⟨rfl,_,Eq.trans (World.drewN_drewN _ _ _) (congrArg (World.drewN _) (Nat.add_assoc _ _ _))⟩);have p214 : 0 ≤ (0 : Int):=(by omega);have q214 : 0 < (l1.length : Int):=oT_ (by first | (with_reducible assumption) | assumption);obtain ⟨ad214,e214,hx214_0,hx214_1⟩:=at_T85 HR1.out 0 p214 q214;obtain rfl : ad212 = ad214:=(by injection e214);have qi214 : (0 < l1.length) = True:=eq_true (by omega);(try rw [show ((0 : Int)).toNat = 0 from rfl] at hx214_0);(try rw [show 0 * 2 = 0 from rfl] at hx214_0);(try rw [Addr.add_zero'] at hx214_0);(try rw [show ((0 : Int)).toNat = 0 from rfl] at hx214_1);(try rw [show 0 * 2 = 0 from rfl] at hx214_1);(try rw [Addr.add_zero'] at hx214_1);replace hx214_0:=(HB.out.cell (wL_ w _ hx214_0)).trans hx214_0;replace hx214_1:=(HB.out.cell (wL_ w _ hx214_1)).trans hx214_1;replace p214:=eq_true p214;replace q214:=eq_true q214;have p215 : 0 ≤ (x5_1 : Int):=oT_ (by first | (with_reducible assumption) | assumption);have q215 : x5_1 < (l1.length : Int):=oT_ (by first | (with_reducible assumption) | assumption);obtain ⟨ad215,e215,hx215_0,hx215_1⟩:=at_T85 HR1.out x5_1 p215 q215;obtain rfl : ad212 = ad215:=(by injection e215);replace hx215_0:=(HB.out.cell (wL_ w _ hx215_0)).trans hx215_0;replace hx215_1:=(HB.out.cell (wL_ w _ hx215_1)).trans hx215_1;replace p215:=eq_true p215;replace q215:=eq_true q215));try go_wp2_with (first | (go_at_call 101;(try simp only [i64_w]);(with_reducible refine (spec_l1In.calls ((rd_T85 l1 x5_1).f0) 0 (wrap64 ((l0_1.length : Int) - 1)) true _ A6.out).mono ?_);rintro e w' ⟨rfl,⟨nd,rfl⟩⟩;(try first | exact ⟨rfl,_,World.drewN_drewN _ _ _⟩ | exact ⟨rfl,_,Eq.trans (World.drewN_drewN _ _ _) (congrArg (World.drewN _) (Nat.add_assoc _ _ _))⟩);have p214 : 0 ≤ (0 : Int):=(by omega);have q214 : 0 < (l1.length : Int):=oT_ (by first | (with_reducible assumption) | assumption);obtain ⟨ad214,e214,hx214_0,hx214_1⟩:=at_T85 HR1.out 0 p214 q214;obtain rfl : ad212 = ad214:=(by injection e214);have qi214 : (0 < l1.length) = True:=eq_true (by omega);(try rw [show ((0 : Int)).toNat = 0 from rfl] at hx214_0);(try rw [show 0 * 2 = 0 from rfl] at hx214_0);(try rw [Addr.add_zero'] at hx214_0);(try rw [show ((0 : Int)).toNat = 0 from rfl] at hx214_1);(try rw [show 0 * 2 = 0 from rfl] at hx214_1);(try rw [Addr.add_zero'] at hx214_1);replace hx214_0:=(HB.out.cell (wL_ w _ hx214_0)).trans hx214_0;replace hx214_1:=(HB.out.cell (wL_ w _ hx214_1)).trans hx214_1;replace p214:=eq_true p214;replace q214:=eq_true q214;have p215 : 0 ≤ (x5_1 : Int):=oT_ (by first | (with_reducible assumption) | assumption);have q215 : x5_1 < (l1.length : Int):=oT_ (by first | (with_reducible assumption) | assumption);obtain ⟨ad215,e215,hx215_0,hx215_1⟩:=at_T85 HR1.out x5_1 p215 q215;obtain rfl : ad212 = ad215:=(by injection e215);replace hx215_0:=(HB.out.cell (wL_ w _ hx215_0)).trans hx215_0;replace hx215_1:=(HB.out.cell (wL_ w _ hx215_1)).trans hx215_1;replace p215:=eq_true p215;replace q215:=eq_true q215)))
         go_ret
         exact ⟨by first | rfl | (simp [errW_none,errW_some] <;> rfl) | (simp [*, errW_none,errW_some] <;> rfl),by exact bZ_ HB⟩
        ·rw [if_neg c10] at H
         have c10b0 : (((rd_T85 l1 0).f0) == ((rd_T85 l1 x5_1).f0)) = false:=beq_eq_false_iff_ne.mpr c10
         have c10b1 : (((rd_T85 l1 0).f0) != ((rd_T85 l1 x5_1).f0)) = true:=bne_iff_ne.mpr c10
         have H':=aM_ H
         clear H
         have p212 : 0 ≤ (x5_1 : Int):=oT_ (by first | (with_reducible assumption) | assumption)
         have q212 : x5_1 < (l1.length : Int):=oT_ (by first | (with_reducible assumption) | assumption)
         obtain ⟨ad212,e212,hx212_0,hx212_1⟩:=at_T85 HR1.out x5_1 p212 q212
         cases e212
         replace hx212_0:=(HB.out.cell (wL_ w _ hx212_0)).trans hx212_0
         replace hx212_1:=(HB.out.cell (wL_ w _ hx212_1)).trans hx212_1
         replace p212:=eq_true p212
         replace q212:=eq_true q212
         have hcz12_0 : wr.cell? ⟨gb211,0,none⟩ = some (.string a0_0):=(kC_ BK211.out 0).trans rfl
         have hcz12_1 : wr.cell? ⟨gb211,1,none⟩ = some (.slice A0_1 l0_1.length c0_1):=(kC_ BK211.out 1).trans rfl
         have hcz12_2 : wr.cell? ⟨gb211,2,none⟩ = some (.slice A0_2 l0_2.length c0_2):=(kC_ BK211.out 2).trans rfl
         have hcz12_3 : wr.cell? ⟨gb211,3,none⟩ = some (.slice A0_3 l0_3.length c0_3):=(kC_ BK211.out 3).trans rfl
         have hfz12_0:=kF_ BK211.out 0
         have hfz12_1:=kF_ BK211.out 1
         have hfz12_2:=kF_ BK211.out 2
         have hfz12_3:=kF_ BK211.out 3
         go_wp2_with (first | (go_at_call 101;(try simp only [i64_w]);(with_reducible refine (spec_l1In.calls ((rd_T85 l1 x5_1).f0) 0 (wrap64 ((l0_1.length : Int) - 1)) true _ A6.out).mono ?_);rintro e w' ⟨rfl,⟨nd,rfl⟩⟩;(try first | exact ⟨rfl,_,World.drewN_drewN _ _ _⟩ | exact ⟨rfl,_,Eq.trans (World.drewN_drewN _ _ _) (congrArg (World.drewN _) (Nat.add_assoc _ _ _))⟩);have p214 : 0 ≤ (0 : Int):=(by omega);have q214 : 0 < (l1.length : Int):=oT_ (by first | (with_reducible assumption) | assumption);obtain ⟨ad214,e214,hx214_0,hx214_1⟩:=at_T85 HR1.out 0 p214 q214;obtain rfl : ad212 = ad214:=(by injection e214);have qi214 : (0 < l1.length) = True:=eq_true (by omega);(try rw [show ((0 : Int)).toNat = 0 from rfl] at hx214_0);(try rw [show 0 * 2 = 0 from rfl] at hx214_0);(try rw [Addr.add_zero'] at hx214_0);(try rw [show ((0 : Int)).toNat = 0 from rfl] at hx214_1);(try rw [show 0 * 2 = 0 from rfl] at hx214_1);(try rw [Addr.add_zero'] at hx214_1);replace hx214_0:=(HB.out.cell (wL_ w _ hx214_0)).trans hx214_0;replace hx214_1:=(HB.out.cell (wL_ w _ hx214_1)).trans hx214_1;replace p214:=eq_true p214;replace q214:=eq_true q214;have p215 : 0 ≤ (x5_1 : Int):=oT_ (by first | (with_reducible assumption) | assumption);have q215 : x5_1 < (l1.length : Int):=oT_ (by first | (with_reducible assumption) | assumption);obtain ⟨ad215,e215,hx215_0,hx215_1⟩:=at_T85 HR1.out x5_1 p215 q215;obtain rfl : ad212 = ad215:=(by injection e215);replace hx215_0:=(HB.out.cell (wL_ w _ hx215_0)).trans hx215_0;replace hx215_1:=(HB.out.cell (wL_ w _ hx215_1)).trans hx215_1;replace p215:=eq_true p215;replace q215:=eq_true q215))
         repeat (go_quiet (first | (go_at_call 101;(try simp only [i64_w]);(with_reducible refine (spec_l1In.calls ((rd_T85 l1 x5_1).f0) 0 (wrap64 ((l0_1.length : Int) - 1)) true _ A6.out).mono ?_);rintro e w' ⟨rfl,⟨nd,rfl⟩⟩;(try first | exact ⟨rfl,_,World.drewN_drewN _ _ _⟩ | exact ⟨rfl,_,Eq.trans (World.drewN_drewN _ _ _) (congrArg (World.drewN _) (Nat.add_assoc _ _ _))⟩);have p214 : 0 ≤ (0 : Int):=(by omega);have q214 : 0 < (l1.length : Int):=oT_ (by first | (with_reducible assumption) | assumption);obtain ⟨ad214,e214,hx214_0,hx214_1⟩:=at_T85 HR1.out 0 p214 q214;obtain rfl : ad212 = ad214:=(by injection e214);have qi214 : (0 < l1.length) = True:=eq_true (by omega);(try rw [show ((0 : Int)).toNat = 0 from rfl] at hx214_0);(try rw [show 0 * 2 = 0 from rfl] at hx214_0);(try rw [Addr.add_zero'] at hx214_0);(try rw [show ((0 : Int)).toNat = 0 from rfl] at hx214_1);(try rw [show 0 * 2 = 0 from rfl] at hx214_1);(try rw [Addr.add_zero'] at hx214_1);replace hx214_0:=(HB.out.cell (wL_ w _ hx214_0)).trans hx214_0;replace hx214_1:=(HB.out.cell (wL_ w _ hx214_1)).trans hx214_1;replace p214:=eq_true p214;replace q214:=eq_true q214;have p215 : 0 ≤ (x5_1 : Int):=oT_ (by first | (with_reducible assumption) | assumption);have q215 : x5_1 < (l1.length : Int):=oT_ (by first | (with_reducible assumption) | assumption);obtain ⟨ad215,e215,hx215_0,hx215_1⟩:=at_T85 HR1.out x5_1 p215 q215;obtain rfl : ad212 = ad215:=(by injection e215);replace hx215_0:=(HB.out.cell (wL_ w _ hx215_0)).trans hx215_0;replace hx215_1:=(HB.out.cell (wL_ w _ hx215_1)).trans hx215_1;replace p215:=eq_true p215;replace q215:=eq_true q215));try go_wp2_with (first | (go_at_call 101;(try simp only [i64_w]);(with_reducible refine (spec_l1In.calls ((rd_T85 l1 x5_1).f0) 0 (wrap64 ((l0_1.length : Int) - 1)) true _ A6.out).mono ?_);rintro e w' ⟨rfl,⟨nd,rfl⟩⟩;(try first | exact ⟨rfl,_,World.drewN_drewN _ _ _⟩ | exact ⟨rfl,_,Eq.trans (World.drewN_drewN _ _ _) (congrArg (World.drewN _) (Nat.add_assoc _ _ _))⟩);have p214 : 0 ≤ (0 : Int):=(by omega);have q214 : 0 < (l1.length : Int):=oT_ (by first | (with_reducible assumption) | assumption);obtain ⟨ad214,e214,hx214_0,hx214_1⟩:=at_T85 HR1.out 0 p214 q214;obtain rfl : ad212 = ad214:=(by injection e214);have qi214 : (0 < l1.length) = True:=eq_true (by omega);(try rw [show ((0 : Int)).toNat = 0 from rfl] at hx214_0);(try rw [show 0 * 2 = 0 from rfl] at hx214_0);(try rw [Addr.add_zero'] at hx214_0);(try rw [show ((0 : Int)).toNat = 0 from rfl] at hx214_1);(try rw [show 0 * 2 = 0 from rfl] at hx214_1);(try rw [Addr.add_zero'] at hx214_1);replace hx214_0:=(HB.out.cell (wL_ w _ hx214_0)).trans hx214_0;replace hx214_1:=(HB.out.cell (wL_ w _ hx214_1)).trans hx214_1;replace p214:=eq_true p214;replace q214:=eq_true q214;have p215 : 0 ≤ (x5_1 : Int):=oT_ (by first | (with_reducible assumption) | assumption);have q215 : x5_1 < (l1.length : Int):=oT_ (by first | (with_reducible assumption) | assumption);obtain ⟨ad215,e215,hx215_0,hx215_1⟩:=at_T85 HR1.out x5_1 p215 q215;obtain rfl : ad212 = ad215:=(by injection e215);replace hx215_0:=(HB.out.cell (wL_ w _ hx215_0)).trans hx215_0;replace hx215_1:=(HB.out.cell (wL_ w _ hx215_1)).trans hx215_1;replace p215:=eq_true p215;replace q215:=eq_true q215)))
         go_roundg k1
         case measure=>have:=HK1.out;omega
         case rel=>exact ⟨(wrap64 (x5_1 + 1)),(by first | rfl | (simp;done) | (simp [*];done)),H', ⟨by have:=HK1.out;omega⟩,⟨by exact kZ_ BK211⟩,⟨by exact bZ_ HB⟩⟩
       ·rw [if_neg c9] at H
        exact absurd H (by simp)
      ·rw [if_neg c8] at H
       have c8b0 : decide (0 < x5_1) = false:=decide_eq_false c8
       clear c8
       have H':=aM_ H
       clear H
       have p212 : 0 ≤ (x5_1 : Int):=oT_ (by first | (with_reducible assumption) | assumption)
       have q212 : x5_1 < (l1.length : Int):=oT_ (by first | (with_reducible assumption) | assumption)
       obtain ⟨ad212,e212,hx212_0,hx212_1⟩:=at_T85 HR1.out x5_1 p212 q212
       cases e212
       replace hx212_0:=(HB.out.cell (wL_ w _ hx212_0)).trans hx212_0
       replace hx212_1:=(HB.out.cell (wL_ w _ hx212_1)).trans hx212_1
       replace p212:=eq_true p212
       replace q212:=eq_true q212
       have hcz13_0 : wr.cell? ⟨gb211,0,none⟩ = some (.string a0_0):=(kC_ BK211.out 0).trans rfl
       have hcz13_1 : wr.cell? ⟨gb211,1,none⟩ = some (.slice A0_1 l0_1.length c0_1):=(kC_ BK211.out 1).trans rfl
       have hcz13_2 : wr.cell? ⟨gb211,2,none⟩ = some (.slice A0_2 l0_2.length c0_2):=(kC_ BK211.out 2).trans rfl
       have hcz13_3 : wr.cell? ⟨gb211,3,none⟩ = some (.slice A0_3 l0_3.length c0_3):=(kC_ BK211.out 3).trans rfl
       have hfz13_0:=kF_ BK211.out 0
       have hfz13_1:=kF_ BK211.out 1
       have hfz13_2:=kF_ BK211.out 2
       have hfz13_3:=kF_ BK211.out 3
       go_wp2_with (first | (go_at_call 101;(try simp only [i64_w]);(with_reducible refine (spec_l1In.calls ((rd_T85 l1 x5_1).f0) 0 (wrap64 ((l0_1.length : Int) - 1)) true _ A6.out).mono ?_);rintro e w' ⟨rfl,⟨nd,rfl⟩⟩;(try first | exact ⟨rfl,_,World.drewN_drewN _ _ _⟩ | exact ⟨rfl,_,Eq.trans (World.drewN_drewN _ _ _) (congrArg (World.drewN _) (Nat.add_assoc _ _ _))⟩)))
       repeat (go_quiet (first | (go_at_call 101;(try simp only [i64_w]);(with_reducible refine (spec_l1In.calls ((rd_T85 l1 x5_1).f0) 0 (wrap64 ((l0_1.length : Int) - 1)) true _ A6.out).mono ?_);rintro e w' ⟨rfl,⟨nd,rfl⟩⟩;(try first | exact ⟨rfl,_,World.drewN_drewN _ _ _⟩ | exact ⟨rfl,_,Eq.trans (World.drewN_drewN _ _ _) (congrArg (World.drewN _) (Nat.add_assoc _ _ _))⟩)));try go_wp2_with (first | (go_at_call 101;(try simp only [i64_w]);(with_reducible refine (spec_l1In.calls ((rd_T85 l1 x5_1).f0) 0 (wrap64 ((l0_1.length : Int) - 1)) true _ A6.out).mono ?_);rintro e w' ⟨rfl,⟨nd,rfl⟩⟩;(try first | exact ⟨rfl,_,World.drewN_drewN _ _ _⟩ | exact ⟨rfl,_,Eq.trans (World.drewN_drewN _ _ _) (congrArg (World.drewN _) (Nat.add_assoc _ _ _))⟩))))
       go_roundg k1
       case measure=>have:=HK1.out;omega
       case rel=>exact ⟨(wrap64 (x5_1 + 1)),(by first | rfl | (simp;done) | (simp [*];done)),H', ⟨by have:=HK1.out;omega⟩,⟨by exact kZ_ BK211⟩,⟨by exact bZ_ HB⟩⟩
     ·replace c7:=Bool.eq_false_iff.mpr c7
      subst c7
      have H1 : (some false) = some r:=by rw [if_neg (show ¬ (false = true) by decide)] at H;exact H
      clear H
      have H:=H1
      clear H1
      obtain rfl:=Option.some.inj H
      have p212 : 0 ≤ (x5_1 : Int):=oT_ (by first | (with_reducible assumption) | assumption)
      have q212 : x5_1 < (l1.length : Int):=oT_ (by first | (with_reducible assumption) | assumption)
      obtain ⟨ad212,e212,hx212_0,hx212_1⟩:=at_T85 HR1.out x5_1 p212 q212
      cases e212
      replace hx212_0:=(HB.out.cell (wL_ w _ hx212_0)).trans hx212_0
      replace hx212_1:=(HB.out.cell (wL_ w _ hx212_1)).trans hx212_1
      replace p212:=eq_true p212
      replace q212:=eq_true q212
      have hcz14_0 : wr.cell? ⟨gb211,0,none⟩ = some (.string a0_0):=(kC_ BK211.out 0).trans rfl
      have hcz14_1 : wr.cell? ⟨gb211,1,none⟩ = some (.slice A0_1 l0_1.length c0_1):=(kC_ BK211.out 1).trans rfl
      have hcz14_2 : wr.cell? ⟨gb211,2,none⟩ = some (.slice A0_2 l0_2.length c0_2):=(kC_ BK211.out 2).trans rfl
      have hcz14_3 : wr.cell? ⟨gb211,3,none⟩ = some (.slice A0_3 l0_3.length c0_3):=(kC_ BK211.out 3).trans rfl
      have hfz14_0:=kF_ BK211.out 0
      have hfz14_1:=kF_ BK211.out 1
      have hfz14_2:=kF_ BK211.out 2
      have hfz14_3:=kF_ BK211.out 3
      go_wp2_with (first | (go_at_call 101;(try simp only [i64_w]);(with_reducible refine (spec_l1In.calls ((rd_T85 l1 x5_1).f0) 0 (wrap64 ((l0_1.length : Int) - 1)) false _ A6.out).mono ?_);rintro e w' ⟨rfl,⟨nd,rfl⟩⟩;(try first | exact ⟨rfl,_,World.drewN_drewN _ _ _⟩ | exact ⟨rfl,_,Eq.trans (World.drewN_drewN _ _ _) (congrArg (World.drewN _) (Nat.add_assoc _ _ _))⟩)))
      repeat (go_quiet (first | (go_at_call 101;(try simp only [i64_w]);(with_reducible refine (spec_l1In.calls ((rd_T85 l1 x5_1).f0) 0 (wrap64 ((l0_1.length : Int) - 1)) false _ A6.out).mono ?_);rintro e w' ⟨rfl,⟨nd,rfl⟩⟩;(try first | exact ⟨rfl,_,World.drewN_drewN _ _ _⟩ | exact ⟨rfl,_,Eq.trans (World.drewN_drewN _ _ _) (congrArg (World.drewN _) (Nat.add_assoc _ _ _))⟩)));try go_wp2_with (first | (go_at_call 101;(try simp only [i64_w]);(with_reducible refine (spec_l1In.calls ((rd_T85 l1 x5_1).f0) 0 (wrap64 ((l0_1.length : Int) - 1)) false _ A6.out).mono ?_);rintro e w' ⟨rfl,⟨nd,rfl⟩⟩;(try first | exact ⟨rfl,_,World.drewN_drewN _ _ _⟩ | exact ⟨rfl,_,Eq.trans (World.drewN_drewN _ _ _) (congrArg (World.drewN _) (Nat.add_assoc _ _ _))⟩))))
      go_ret
      exact ⟨by first | rfl | (simp [errW_none,errW_some] <;> rfl) | (simp [*, errW_none,errW_some] <;> rfl),by exact bZ_ HB⟩
    ·rw [if_neg c5] at H
     exact absurd H (by simp)
   ·rw [if_neg c4] at H
    have c4b0 : decide (x5_1 < (l1.length : Int)) = false:=decide_eq_false c4
    clear c4
    replace H:=oB_ H
    obtain ⟨t216,A150,H⟩:=H
    replace H : (some t216) = some r:=H
    have A15:=aM_ A150
    clear A150
    obtain rfl:=Option.some.inj H
    go_wp2_with (first | (go_at_call 101;(with_reducible refine (spec_l1In.calls (l1.length : Int) 1 2 t216 _ A15.out).mono ?_);rintro e w' ⟨rfl,⟨nd,rfl⟩⟩;(try first | exact ⟨rfl,_,World.drewN_drewN _ _ _⟩ | exact ⟨rfl,_,Eq.trans (World.drewN_drewN _ _ _) (congrArg (World.drewN _) (Nat.add_assoc _ _ _))⟩)))
    repeat (go_quiet (first | (go_at_call 101;(with_reducible refine (spec_l1In.calls (l1.length : Int) 1 2 t216 _ A15.out).mono ?_);rintro e w' ⟨rfl,⟨nd,rfl⟩⟩;(try first | exact ⟨rfl,_,World.drewN_drewN _ _ _⟩ | exact ⟨rfl,_,Eq.trans (World.drewN_drewN _ _ _) (congrArg (World.drewN _) (Nat.add_assoc _ _ _))⟩)));try go_wp2_with (first | (go_at_call 101;(with_reducible refine (spec_l1In.calls (l1.length : Int) 1 2 t216 _ A15.out).mono ?_);rintro e w' ⟨rfl,⟨nd,rfl⟩⟩;(try first | exact ⟨rfl,_,World.drewN_drewN _ _ _⟩ | exact ⟨rfl,_,Eq.trans (World.drewN_drewN _ _ _) (congrArg (World.drewN _) (Nat.add_assoc _ _ _))⟩))))
    go_ret
    exact ⟨by first | rfl | (simp [errW_none,errW_some] <;> rfl) | (simp [*, errW_none,errW_some] <;> rfl),by exact bZ_ HB⟩
def spec_l9AllParts.l0 : Nat → Int → ByteArray → List (S82) → List (S85) → List (S69) → Option (Bool)
 | 0,_,_,_,_,_=>none
 | k + 1,x3,x218000,x218001,x218002,x218003=>if x3 < (x218003.length : Int) then (if 0 ≤ x3 then ((spec_l9Parts.f k x218000 x218001 x218002 x218003 ((rd_T69 x218003 x3).f2)).bind fun t219=>(if t219 = true then (spec_l9AllParts.l0 k (wrap64 (x3 + 1)) x218000 x218001 x218002 x218003) else (some false))) else (none)) else ((spec_l9Parts.f k x218000 x218001 x218002 x218003 x218002).bind fun t220=>(some t220))
def spec_l9AllParts.f (k : Nat) (a0_0 : ByteArray) (l0_1 : List (S82)) (l0_2 : List (S85)) (l0_3 : List (S69)) : Option (Bool):=spec_l9AllParts.l0 k 0 a0_0 l0_1 l0_2 l0_3
theorem spec_l9AllParts.mono_l : ∀ k,(∀ y0 y1 y2 y3 y4,LeO (spec_l9AllParts.l0 k y0 y1 y2 y3 y4) (spec_l9AllParts.l0 (k + 1) y0 y1 y2 y3 y4))
 | 0=>fun _ _ _ _ _ r h=>by simp [spec_l9AllParts.l0] at h
 | k + 1=>by
  have ih0:=spec_l9AllParts.mono_l k
  ·intro y0 y1 y2 y3 y4
   unfold spec_l9AllParts.l0
   repeat' first
   | (with_reducible exact ih0 _ _ _ _ _)
   | (with_reducible exact spec_l9Parts.mono _ _ _ _ _ _)
   | (with_reducible exact LeO.refl _)
   | (with_reducible exact LeO.none _)
   | (with_reducible refine LeO.ite ?_ ?_)
   | (with_reducible refine LeO.bind ?_ (fun _=>?_))
   | exact ih0 _ _ _ _ _
   | exact spec_l9Parts.mono _ _ _ _ _ _
   | exact LeO.none _
   | refine LeO.ite ?_ ?_
   | refine LeO.bind ?_ (fun _=>?_)
theorem spec_l9AllParts.mono : ∀ a0 a1 a2 a3 k,LeO (spec_l9AllParts.f k a0 a1 a2 a3) (spec_l9AllParts.f (k + 1) a0 a1 a2 a3):=by
 intro a0 a1 a2 a3 k
 have ih0:=spec_l9AllParts.mono_l k
 unfold spec_l9AllParts.f
 repeat' first
   | (with_reducible exact ih0 _ _ _ _ _)
   | (with_reducible exact spec_l9Parts.mono _ _ _ _ _ _)
   | (with_reducible exact LeO.refl _)
   | (with_reducible exact LeO.none _)
   | (with_reducible refine LeO.ite ?_ ?_)
   | (with_reducible refine LeO.bind ?_ (fun _=>?_))
   | exact ih0 _ _ _ _ _
   | exact spec_l9Parts.mono _ _ _ _ _ _
   | exact LeO.none _
   | refine LeO.ite ?_ ?_
   | refine LeO.bind ?_ (fun _=>?_)
def spec_l9AllParts.T4 : Bool × List (List Nat × List Nat):=(true,[([],[]),([],[]),([1],[1]),([],[]),([2,3],[2,3]),([4],[4]),([5],[5]),([0,6],[0,6]),([7],[7])])
def spec_l9AllParts.B4 : List Nat:=[0,0,2,0,14,30,62,127,255]
theorem spec_l9AllParts.tab4 : rtab .any (opsOf Tryd.f63 4) = spec_l9AllParts.T4:=by kernel_rfl
theorem spec_l9AllParts.bits4 : waitsOk spec_l9AllParts.T4.2 spec_l9AllParts.B4 = true:=by kernel_rfl
set_option maxHeartbeats 8000000 in
set_option maxRecDepth 100000 in
theorem spec_l9AllParts.calls (k : Nat) (a0_0 : ByteArray) (A0_1 : Option Addr) (c0_1 : Nat) (l0_1 : List (S82)) (A0_2 : Option Addr) (c0_2 : Nat) (l0_2 : List (S85)) (A0_3 : Option Addr) (c0_3 : Nat) (l0_3 : List (S69)) (r : Bool) (w : World) (hr0_1 : Kd.C k82 w A0_1 l0_1.length l0_1) (hc0_1 : l0_1.length ≤ c0_1) (hr0_2 : Kd.C k85 w A0_2 l0_2.length l0_2) (hc0_2 : l0_2.length ≤ c0_2) (hr0_3 : Kd.C k69 w A0_3 l0_3.length l0_3) (hc0_3 : l0_3.length ≤ c0_3) (h : spec_l9AllParts.f k a0_0 l0_1 l0_2 l0_3 = some r) :
  Calls Tryd.prog 63 #[.agg #[.string a0_0,.slice A0_1 l0_1.length c0_1,.slice A0_2 l0_2.length c0_2,.slice A0_3 l0_3.length c0_3]] w fun e w'=>e = .returned (.bool r) ∧ Below w.heap.size w w':=by
 have hu35:=Tryd.underlying35
 have HR0_1:=aM_ hr0_1
 have HC0_1:=aM_ hc0_1
 clear hr0_1 hc0_1
 have HR0_2:=aM_ hr0_2
 have HC0_2:=aM_ hc0_2
 clear hr0_2 hc0_2
 have HR0_3:=aM_ hr0_3
 have HC0_3:=aM_ hc0_3
 clear hr0_3 hc0_3
 have HB:=aM_ (Below.refl w.heap.size w)
 have H : (spec_l9AllParts.l0 k 0 a0_0 l0_1 l0_2 l0_3) = some r:=h
 clear h
 have H':=aM_ H
 clear H
 go_enter Tryd.func63,Tryd.ntmps63
 go_wp2_with (first | ((with_reducible refine gate_dst (N:=1) rfl ?_);refine box_event ?hg (N:=1) ?hd (cs:=#[.string a0_0,.slice A0_1 l0_1.length c0_1,.slice A0_2 l0_2.length c0_2,.slice A0_3 l0_3.length c0_3]) (t:=35) ?hr ?_;(case hd=>rfl);(case hg=>rfl);(case hr=>first | (go_simp;done) | (go_simp;rfl));intro gb217 hg w2 hbox hb;have n0_:=aM_ (bT_ (by exact bZ_ HB) hb);have n1_:=aM_ (hbox);have n2_:=aM_ ((by rw [hg];exact (bS_ (by exact bZ_ HB)) : w.heap.size ≤ gb217));have n3_:=aM_ ((by rw [hg];exact (bS_ (by exact bZ_ HB)) : w.heap.size ≤ gb217));clear HB;have HB:=n0_;have BK217:=n1_;have GW217:=n2_;have GE217:=n3_;clear n0_ n1_ n2_ n3_;clear hb hbox hg))
 (try simp only [Act.put,sI_,sS_,sZ_])
 go_loopg [3] k (fun kq v3 w'=>∃ (x3_1 : Int),v3 = .int .i64 x3_1 ∧ Aside0 (spec_l9AllParts.l0 kq x3_1 a0_0 l0_1 l0_2 l0_3 = some r) ∧ Aside0 (kq ≤ k) ∧ Aside0 (w'.heap[gb217]? = some (.cells #[.string a0_0,(.slice A0_1 l0_1.length c0_1),(.slice A0_2 l0_2.length c0_2),(.slice A0_3 l0_3.length c0_3)] 35 (0,0))) ∧ Aside0 (Below w.heap.size w w'))
 case atStart=>exact ⟨(0),(by first | rfl | (simp;done) | (simp [*];done)),H', ⟨Nat.le_refl _⟩,⟨by exact kZ_ BK217⟩,⟨by exact bZ_ HB⟩⟩
 case round =>
  clear H'
  try clear p2
  obtain ⟨x3_1,rfl,HA,HK1,BK217,HB⟩:=hrel
  cases gk with
  | zero=>exact absurd HA.out (by simp [spec_l9AllParts.l0])
  | succ k1 =>
   have H:=HA.out
   clear HA
   simp only [spec_l9AllParts.l0] at H
   by_cases c3 : x3_1 < (l0_3.length : Int)
   ·rw [if_pos c3] at H
    have c3b0 : decide (x3_1 < (l0_3.length : Int)) = true:=decide_eq_true c3
    clear c3
    by_cases c4 : 0 ≤ x3_1
    ·rw [if_pos c4] at H
     have c4b0 : decide (0 ≤ x3_1) = true:=decide_eq_true c4
     clear c4
     replace H:=oB_ H
     obtain ⟨t219,A50,H⟩:=H
     replace H : (if t219 = true then (spec_l9AllParts.l0 k1 (wrap64 (x3_1 + 1)) a0_0 l0_1 l0_2 l0_3) else (some false)) = some r:=H
     have A5:=aM_ A50
     clear A50
     by_cases c6 : t219 = true
     ·subst c6
      have H1 : (spec_l9AllParts.l0 k1 (wrap64 (x3_1 + 1)) a0_0 l0_1 l0_2 l0_3) = some r:=by rw [if_pos rfl] at H;exact H
      clear H
      have H:=H1
      clear H1
      have H':=aM_ H
      clear H
      have hcz7_0 : wr.cell? ⟨gb217,0,none⟩ = some (.string a0_0):=(kC_ BK217.out 0).trans rfl
      have hcz7_1 : wr.cell? ⟨gb217,1,none⟩ = some (.slice A0_1 l0_1.length c0_1):=(kC_ BK217.out 1).trans rfl
      have hcz7_2 : wr.cell? ⟨gb217,2,none⟩ = some (.slice A0_2 l0_2.length c0_2):=(kC_ BK217.out 2).trans rfl
      have hcz7_3 : wr.cell? ⟨gb217,3,none⟩ = some (.slice A0_3 l0_3.length c0_3):=(kC_ BK217.out 3).trans rfl
      have hfz7_0:=kF_ BK217.out 0
      have hfz7_1:=kF_ BK217.out 1
      have hfz7_2:=kF_ BK217.out 2
      have hfz7_3:=kF_ BK217.out 3
      try go_wp2
      have n0_:=aM_ (kD_ BK217.out)
      have n1_:=aM_ (bD_ HB.out)
      clear BK217
      clear HB
      have BK217:=n0_
      have HB:=n1_
      clear n0_ n1_
      have p218 : 0 ≤ (x3_1 : Int):=oT_ (by first | (with_reducible assumption) | assumption)
      have q218 : x3_1 < (l0_3.length : Int):=oT_ (by first | (with_reducible assumption) | assumption)
      obtain ⟨ad218,A218_2,c218_2,e218,hx218_0,hx218_1,hx218_2,hl218_2,hi218_2⟩:=at_T69 HR0_3.out x3_1 p218 q218
      have hw218_2:=hx218_2
      have hw218_1:=hx218_1
      have hw218_0:=hx218_0
      cases e218
      replace hx218_0:=(HB.out.cell (wL_ w _ hx218_0)).trans hx218_0
      replace hx218_1:=(HB.out.cell (wL_ w _ hx218_1)).trans hx218_1
      replace hx218_2:=(HB.out.cell (wL_ w _ hx218_2)).trans hx218_2
      have HR218_2:=aM_ hi218_2
      have HC218_2:=aM_ hl218_2
      clear hi218_2 hl218_2
      replace p218:=eq_true p218
      replace q218:=eq_true q218
      refine start_ (n:=9) (S:=fun w'=>w'.cell? ⟨gb217,0,none⟩ = some (.string a0_0) ∧ w'.cell? ⟨gb217,1,none⟩ = some (.slice A0_1 l0_1.length c0_1) ∧ w'.cell? ⟨gb217,2,none⟩ = some (.slice A0_2 l0_2.length c0_2) ∧ w'.cell? ⟨gb217,3,none⟩ = some (.slice (some ad218) l0_3.length c0_3) ∧ w'.cell? (ad218.add ((x3_1).toNat * 3)) = some (.string ((rd_T69 l0_3 x3_1).f0)) ∧ w'.cell? ⟨(ad218.add ((x3_1).toNat * 3)).block,(ad218.add ((x3_1).toNat * 3)).off + 1,none⟩ = some (.bool ((rd_T69 l0_3 x3_1).f1)) ∧ w'.cell? ⟨(ad218.add ((x3_1).toNat * 3)).block,(ad218.add ((x3_1).toNat * 3)).off + 2,none⟩ = some (.slice A218_2 ((rd_T69 l0_3 x3_1).f2).length c218_2)) (ds:=[]) (tb_ 0 9) (by kernel_rfl) rfl rfl ⟨(kC_ BK217.out 0).trans rfl,(kC_ BK217.out 1).trans rfl,(kC_ BK217.out 2).trans rfl,(kC_ BK217.out 3).trans rfl,((HB.out.cell (wL_ w _ hw218_0)).trans hw218_0),((HB.out.cell (wL_ w _ hw218_1)).trans hw218_1),((HB.out.cell (wL_ w _ hw218_2)).trans hw218_2)⟩ (fun hHeld=>?_);refine with_tabW spec_l9AllParts.tab4 spec_l9AllParts.bits4 (fun HT_ HW_=>?_)
      generalize wr.drew = w8 at BK217 HB HR218_2 hx218_0 hx218_1 hx218_2 hHeld ⊢
      refine pure_ (i:=1) (N:=some 12) (v:=?_) (a':=?_) #[false,true,false,false,false,false,false,false,false] rfl rfl (any_of HT_.out (by kernel_rfl)) (fun _ _ _ h=>h) (Or.inl ⟨by rfl,?_⟩) ?_ ?_
      rotate_left
      ·intro w'
       go_simp
       with_reducible rfl
      rotate_left
      ·simp only [Act.put,sI_,sZ_,sS_,i64_w,i32_w]
       rfl
      refine pure_ (i:=3) (N:=some 14) (v:=?_) (a':=?_) #[false,true,false,true,false,false,false,false,false] rfl rfl (any_of HT_.out (by kernel_rfl)) (fun _ _ _ h=>h) (Or.inl ⟨by rfl,?_⟩) ?_ ?_
      rotate_left
      ·intro w'
       go_simp
       with_reducible rfl
      rotate_left
      ·simp only [Act.put,sI_,sZ_,sS_,i64_w,i32_w]
       rfl
      refine take_ (i:=0) (N:=some 11) (v:=?_) (a':=?_) #[true,true,false,true,false,false,false,false,false] rfl rfl (take_ofW HT_.out HW_.out (by kernel_rfl)) (fun _ _ _ h=>h) (Or.inl ⟨by rfl,?_⟩) hHeld ?_ ?_
      rotate_left
      ·rintro w' ⟨s0,s1,s2,s3,s4,s5,s6⟩
       go_simp
       with_reducible rfl
      rotate_left
      ·simp only [Act.put,sI_,sZ_,sS_,i64_w,i32_w]
       rfl
      refine take_ (i:=2) (N:=some 13) (v:=?_) (a':=?_) (tb_ 4 5) rfl rfl (take_ofW HT_.out HW_.out (by kernel_rfl)) (fun _ _ _ h=>h) (Or.inl ⟨by rfl,?_⟩) hHeld ?_ ?_
      rotate_left
      ·rintro w' ⟨s0,s1,s2,s3,s4,s5,s6⟩
       go_simp
       with_reducible rfl
      rotate_left
      ·simp only [Act.put,sI_,sZ_,sS_,i64_w,i32_w]
       rfl
      refine pure_ (i:=4) (N:=some 15) (v:=?_) (a':=?_) (tb_ 5 4) rfl rfl (any_of HT_.out (by kernel_rfl)) (fun _ _ _ h=>h) (Or.inl ⟨by rfl,?_⟩) ?_ ?_
      rotate_left
      ·intro w'
       go_simp
       with_reducible rfl
      rotate_left
      ·simp only [Act.put,sI_,sZ_,sS_,i64_w,i32_w]
       rfl
      refine pure_ (i:=5) (N:=some 16) (v:=?_) (a':=?_) (tb_ 6 3) rfl rfl (any_of HT_.out (by kernel_rfl)) (fun _ _ _ h=>h) (Or.inl ⟨by rfl,?_⟩) ?_ ?_
      rotate_left
      ·intro w'
       go_simp
       with_reducible rfl
      rotate_left
      ·simp only [Act.put,sI_,sZ_,sS_,i64_w,i32_w]
       rfl
      refine take_ (i:=6) (N:=some 17) (v:=?_) (a':=?_) (tb_ 7 2) rfl rfl (take_ofW HT_.out HW_.out (by kernel_rfl)) (fun _ _ _ h=>h) (Or.inl ⟨by rfl,?_⟩) hHeld ?_ ?_
      rotate_left
      ·rintro w' ⟨s0,s1,s2,s3,s4,s5,s6⟩
       go_simp
       with_reducible rfl
      rotate_left
      ·simp only [Act.put,sI_,sZ_,sS_,i64_w,i32_w]
       rfl
      refine one_ (i:=7) (N:=some 18) (tb_ 8 1) rfl rfl (one_of HT_.out (by kernel_rfl)) (by decide) (fun K hK=>?_)
      refine goes_ Tryd.func109 (by kernel_rfl) rfl #[.agg #[.string a0_0,.slice A0_1 l0_1.length c0_1,.slice A0_2 l0_2.length c0_2,.slice (some ad218) l0_3.length c0_3],.slice A218_2 ((rd_T69 l0_3 x3_1).f2).length c218_2] (by rfl) rfl rfl (by (try simp only [mA_,mC_,mN_]);first | done | rfl | (simp only [lD_,lT_];rfl)) ?_
      with_reducible refine (spec_l9Parts.calls k1 a0_0 _ _ l0_1 _ _ l0_2 _ _ l0_3 _ _ ((rd_T69 l0_3 x3_1).f2) true _ ?side1 ?side2 ?side3 ?side4 ?side5 ?side6 ?side7 ?side8 A5.out).mono ?_
      (case side1=>repeat (first | exact (Kd.C_below HR0_1.out HB.out) | (with_reducible refine cA_ ?_ _) | (with_reducible refine cN_ ?_ _) | (with_reducible refine cD_ ?_)))
      (case side2=>exact HC0_1.out)
      (case side3=>repeat (first | exact (Kd.C_below HR0_2.out HB.out) | (with_reducible refine cA_ ?_ _) | (with_reducible refine cN_ ?_ _) | (with_reducible refine cD_ ?_)))
      (case side4=>exact HC0_2.out)
      (case side5=>repeat (first | exact (Kd.C_below HR0_3.out HB.out) | (with_reducible refine cA_ ?_ _) | (with_reducible refine cN_ ?_ _) | (with_reducible refine cD_ ?_)))
      (case side6=>exact HC0_3.out)
      (case side7=>repeat (first | exact (Kd.C_below HR218_2.out HB.out) | (with_reducible refine cA_ ?_ _) | (with_reducible refine cN_ ?_ _) | (with_reducible refine cD_ ?_)))
      (case side8=>exact HC218_2.out)
      rintro e w9 ⟨rfl,hb⟩
      refine ⟨_,rfl,?_⟩
      have n0_:=aM_ (blk_below (g:=gb217) (o:=.cells #[.string a0_0,.slice A0_1 l0_1.length c0_1,.slice A0_2 l0_2.length c0_2,.slice (some ad218) l0_3.length c0_3] 35 (0,0)) (by exact kZ_ BK217) hb)
      have n1_:=aM_ (bT_ (by exact bZ_ HB) hb)
      clear BK217
      clear HB
      have BK217:=n0_
      have HB:=n1_
      clear n0_ n1_
      (try clear hb)
      (try clear hb2)
      (try clear hk)
      (try clear hi)
      refine hK.out _ _ ⟨(kC_ BK217.out 0).trans rfl,(kC_ BK217.out 1).trans rfl,(kC_ BK217.out 2).trans rfl,(kC_ BK217.out 3).trans rfl,((HB.out.cell (wL_ w _ hw218_0)).trans hw218_0),((HB.out.cell (wL_ w _ hw218_1)).trans hw218_1),((HB.out.cell (wL_ w _ hw218_2)).trans hw218_2)⟩ (fun hHeld=>?_)
      clear hK K
      refine norm_ (a':=?_) ?_ ?_
      rotate_left
      ·show Act.put _ (some 18) _ = _
       simp only [Act.put,sI_,sZ_,sS_,i64_w,i32_w]
       rfl
      refine pure_ (i:=8) (N:=some 19) (v:=?_) (a':=?_) (tb_ 9 0) rfl rfl (any_of HT_.out (by kernel_rfl)) (fun _ _ _ h=>h) (Or.inl ⟨by rfl,?_⟩) ?_ ?_
      rotate_left
      ·intro w'
       go_simp
       with_reducible rfl
      rotate_left
      ·simp only [Act.put,sI_,sZ_,sS_,i64_w,i32_w]
       rfl
      refine done_ (done_of HT_.out (by kernel_rfl)) ?_
      try go_wp2
      go_roundg k1
      case measure=>have:=HK1.out;omega
      case rel=>exact ⟨(wrap64 (x3_1 + 1)),(by first | rfl | (simp;done) | (simp [*];done)),H', ⟨by have:=HK1.out;omega⟩,⟨by exact kZ_ BK217⟩,⟨by exact bZ_ HB⟩⟩
     ·replace c6:=Bool.eq_false_iff.mpr c6
      subst c6
      have H1 : (some false) = some r:=by rw [if_neg (show ¬ (false = true) by decide)] at H;exact H
      clear H
      have H:=H1
      clear H1
      obtain rfl:=Option.some.inj H
      have hcz10_0 : wr.cell? ⟨gb217,0,none⟩ = some (.string a0_0):=(kC_ BK217.out 0).trans rfl
      have hcz10_1 : wr.cell? ⟨gb217,1,none⟩ = some (.slice A0_1 l0_1.length c0_1):=(kC_ BK217.out 1).trans rfl
      have hcz10_2 : wr.cell? ⟨gb217,2,none⟩ = some (.slice A0_2 l0_2.length c0_2):=(kC_ BK217.out 2).trans rfl
      have hcz10_3 : wr.cell? ⟨gb217,3,none⟩ = some (.slice A0_3 l0_3.length c0_3):=(kC_ BK217.out 3).trans rfl
      have hfz10_0:=kF_ BK217.out 0
      have hfz10_1:=kF_ BK217.out 1
      have hfz10_2:=kF_ BK217.out 2
      have hfz10_3:=kF_ BK217.out 3
      try go_wp2
      have n0_:=aM_ (kD_ BK217.out)
      have n1_:=aM_ (bD_ HB.out)
      clear BK217
      clear HB
      have BK217:=n0_
      have HB:=n1_
      clear n0_ n1_
      have p218 : 0 ≤ (x3_1 : Int):=oT_ (by first | (with_reducible assumption) | assumption)
      have q218 : x3_1 < (l0_3.length : Int):=oT_ (by first | (with_reducible assumption) | assumption)
      obtain ⟨ad218,A218_2,c218_2,e218,hx218_0,hx218_1,hx218_2,hl218_2,hi218_2⟩:=at_T69 HR0_3.out x3_1 p218 q218
      have hw218_2:=hx218_2
      have hw218_1:=hx218_1
      have hw218_0:=hx218_0
      cases e218
      replace hx218_0:=(HB.out.cell (wL_ w _ hx218_0)).trans hx218_0
      replace hx218_1:=(HB.out.cell (wL_ w _ hx218_1)).trans hx218_1
      replace hx218_2:=(HB.out.cell (wL_ w _ hx218_2)).trans hx218_2
      have HR218_2:=aM_ hi218_2
      have HC218_2:=aM_ hl218_2
      clear hi218_2 hl218_2
      replace p218:=eq_true p218
      replace q218:=eq_true q218
      refine start_ (n:=9) (S:=fun w'=>w'.cell? ⟨gb217,0,none⟩ = some (.string a0_0) ∧ w'.cell? ⟨gb217,1,none⟩ = some (.slice A0_1 l0_1.length c0_1) ∧ w'.cell? ⟨gb217,2,none⟩ = some (.slice A0_2 l0_2.length c0_2) ∧ w'.cell? ⟨gb217,3,none⟩ = some (.slice (some ad218) l0_3.length c0_3) ∧ w'.cell? (ad218.add ((x3_1).toNat * 3)) = some (.string ((rd_T69 l0_3 x3_1).f0)) ∧ w'.cell? ⟨(ad218.add ((x3_1).toNat * 3)).block,(ad218.add ((x3_1).toNat * 3)).off + 1,none⟩ = some (.bool ((rd_T69 l0_3 x3_1).f1)) ∧ w'.cell? ⟨(ad218.add ((x3_1).toNat * 3)).block,(ad218.add ((x3_1).toNat * 3)).off + 2,none⟩ = some (.slice A218_2 ((rd_T69 l0_3 x3_1).f2).length c218_2)) (ds:=[]) (tb_ 0 9) (by kernel_rfl) rfl rfl ⟨(kC_ BK217.out 0).trans rfl,(kC_ BK217.out 1).trans rfl,(kC_ BK217.out 2).trans rfl,(kC_ BK217.out 3).trans rfl,((HB.out.cell (wL_ w _ hw218_0)).trans hw218_0),((HB.out.cell (wL_ w _ hw218_1)).trans hw218_1),((HB.out.cell (wL_ w _ hw218_2)).trans hw218_2)⟩ (fun hHeld=>?_);refine with_tabW spec_l9AllParts.tab4 spec_l9AllParts.bits4 (fun HT_ HW_=>?_)
      generalize wr.drew = w11 at BK217 HB HR218_2 hx218_0 hx218_1 hx218_2 hHeld ⊢
      refine pure_ (i:=1) (N:=some 12) (v:=?_) (a':=?_) #[false,true,false,false,false,false,false,false,false] rfl rfl (any_of HT_.out (by kernel_rfl)) (fun _ _ _ h=>h) (Or.inl ⟨by rfl,?_⟩) ?_ ?_
      rotate_left
      ·intro w'
       go_simp
       with_reducible rfl
      rotate_left
      ·simp only [Act.put,sI_,sZ_,sS_,i64_w,i32_w]
       rfl
      refine pure_ (i:=3) (N:=some 14) (v:=?_) (a':=?_) #[false,true,false,true,false,false,false,false,false] rfl rfl (any_of HT_.out (by kernel_rfl)) (fun _ _ _ h=>h) (Or.inl ⟨by rfl,?_⟩) ?_ ?_
      rotate_left
      ·intro w'
       go_simp
       with_reducible rfl
      rotate_left
      ·simp only [Act.put,sI_,sZ_,sS_,i64_w,i32_w]
       rfl
      refine take_ (i:=0) (N:=some 11) (v:=?_) (a':=?_) #[true,true,false,true,false,false,false,false,false] rfl rfl (take_ofW HT_.out HW_.out (by kernel_rfl)) (fun _ _ _ h=>h) (Or.inl ⟨by rfl,?_⟩) hHeld ?_ ?_
      rotate_left
      ·rintro w' ⟨s0,s1,s2,s3,s4,s5,s6⟩
       go_simp
       with_reducible rfl
      rotate_left
      ·simp only [Act.put,sI_,sZ_,sS_,i64_w,i32_w]
       rfl
      refine take_ (i:=2) (N:=some 13) (v:=?_) (a':=?_) (tb_ 4 5) rfl rfl (take_ofW HT_.out HW_.out (by kernel_rfl)) (fun _ _ _ h=>h) (Or.inl ⟨by rfl,?_⟩) hHeld ?_ ?_
      rotate_left
      ·rintro w' ⟨s0,s1,s2,s3,s4,s5,s6⟩
       go_simp
       with_reducible rfl
      rotate_left
      ·simp only [Act.put,sI_,sZ_,sS_,i64_w,i32_w]
       rfl
      refine pure_ (i:=4) (N:=some 15) (v:=?_) (a':=?_) (tb_ 5 4) rfl rfl (any_of HT_.out (by kernel_rfl)) (fun _ _ _ h=>h) (Or.inl ⟨by rfl,?_⟩) ?_ ?_
      rotate_left
      ·intro w'
       go_simp
       with_reducible rfl
      rotate_left
      ·simp only [Act.put,sI_,sZ_,sS_,i64_w,i32_w]
       rfl
      refine pure_ (i:=5) (N:=some 16) (v:=?_) (a':=?_) (tb_ 6 3) rfl rfl (any_of HT_.out (by kernel_rfl)) (fun _ _ _ h=>h) (Or.inl ⟨by rfl,?_⟩) ?_ ?_
      rotate_left
      ·intro w'
       go_simp
       with_reducible rfl
      rotate_left
      ·simp only [Act.put,sI_,sZ_,sS_,i64_w,i32_w]
       rfl
      refine take_ (i:=6) (N:=some 17) (v:=?_) (a':=?_) (tb_ 7 2) rfl rfl (take_ofW HT_.out HW_.out (by kernel_rfl)) (fun _ _ _ h=>h) (Or.inl ⟨by rfl,?_⟩) hHeld ?_ ?_
      rotate_left
      ·rintro w' ⟨s0,s1,s2,s3,s4,s5,s6⟩
       go_simp
       with_reducible rfl
      rotate_left
      ·simp only [Act.put,sI_,sZ_,sS_,i64_w,i32_w]
       rfl
      refine one_ (i:=7) (N:=some 18) (tb_ 8 1) rfl rfl (one_of HT_.out (by kernel_rfl)) (by decide) (fun K hK=>?_)
      refine goes_ Tryd.func109 (by kernel_rfl) rfl #[.agg #[.string a0_0,.slice A0_1 l0_1.length c0_1,.slice A0_2 l0_2.length c0_2,.slice (some ad218) l0_3.length c0_3],.slice A218_2 ((rd_T69 l0_3 x3_1).f2).length c218_2] (by rfl) rfl rfl (by (try simp only [mA_,mC_,mN_]);first | done | rfl | (simp only [lD_,lT_];rfl)) ?_
      with_reducible refine (spec_l9Parts.calls k1 a0_0 _ _ l0_1 _ _ l0_2 _ _ l0_3 _ _ ((rd_T69 l0_3 x3_1).f2) false _ ?side1 ?side2 ?side3 ?side4 ?side5 ?side6 ?side7 ?side8 A5.out).mono ?_
      (case side1=>repeat (first | exact (Kd.C_below HR0_1.out HB.out) | (with_reducible refine cA_ ?_ _) | (with_reducible refine cN_ ?_ _) | (with_reducible refine cD_ ?_)))
      (case side2=>exact HC0_1.out)
      (case side3=>repeat (first | exact (Kd.C_below HR0_2.out HB.out) | (with_reducible refine cA_ ?_ _) | (with_reducible refine cN_ ?_ _) | (with_reducible refine cD_ ?_)))
      (case side4=>exact HC0_2.out)
      (case side5=>repeat (first | exact (Kd.C_below HR0_3.out HB.out) | (with_reducible refine cA_ ?_ _) | (with_reducible refine cN_ ?_ _) | (with_reducible refine cD_ ?_)))
      (case side6=>exact HC0_3.out)
      (case side7=>repeat (first | exact (Kd.C_below HR218_2.out HB.out) | (with_reducible refine cA_ ?_ _) | (with_reducible refine cN_ ?_ _) | (with_reducible refine cD_ ?_)))
      (case side8=>exact HC218_2.out)
      rintro e w12 ⟨rfl,hb⟩
      refine ⟨_,rfl,?_⟩
      have n0_:=aM_ (blk_below (g:=gb217) (o:=.cells #[.string a0_0,.slice A0_1 l0_1.length c0_1,.slice A0_2 l0_2.length c0_2,.slice (some ad218) l0_3.length c0_3] 35 (0,0)) (by exact kZ_ BK217) hb)
      have n1_:=aM_ (bT_ (by exact bZ_ HB) hb)
      clear BK217
      clear HB
      have BK217:=n0_
      have HB:=n1_
      clear n0_ n1_
      (try clear hb)
      (try clear hb2)
      (try clear hk)
      (try clear hi)
      refine hK.out _ _ ⟨(kC_ BK217.out 0).trans rfl,(kC_ BK217.out 1).trans rfl,(kC_ BK217.out 2).trans rfl,(kC_ BK217.out 3).trans rfl,((HB.out.cell (wL_ w _ hw218_0)).trans hw218_0),((HB.out.cell (wL_ w _ hw218_1)).trans hw218_1),((HB.out.cell (wL_ w _ hw218_2)).trans hw218_2)⟩ (fun hHeld=>?_)
      clear hK K
      refine norm_ (a':=?_) ?_ ?_
      rotate_left
      ·show Act.put _ (some 18) _ = _
       simp only [Act.put,sI_,sZ_,sS_,i64_w,i32_w]
       rfl
      refine pure_ (i:=8) (N:=some 19) (v:=?_) (a':=?_) (tb_ 9 0) rfl rfl (any_of HT_.out (by kernel_rfl)) (fun _ _ _ h=>h) (Or.inl ⟨by rfl,?_⟩) ?_ ?_
      rotate_left
      ·intro w'
       go_simp
       with_reducible rfl
      rotate_left
      ·simp only [Act.put,sI_,sZ_,sS_,i64_w,i32_w]
       rfl
      refine done_ (done_of HT_.out (by kernel_rfl)) ?_
      try go_wp2
      go_ret
      exact ⟨by first | rfl | (simp [errW_none,errW_some] <;> rfl) | (simp [*, errW_none,errW_some] <;> rfl),by exact bZ_ HB⟩
    ·rw [if_neg c4] at H
     exact absurd H (by simp)
   ·rw [if_neg c3] at H
    have c3b0 : decide (x3_1 < (l0_3.length : Int)) = false:=decide_eq_false c3
    clear c3
    replace H:=oB_ H
    obtain ⟨t220,A130,H⟩:=H
    replace H : (some t220) = some r:=H
    have A13:=aM_ A130
    clear A130
    obtain rfl:=Option.some.inj H
    have hcz14_0 : wr.cell? ⟨gb217,0,none⟩ = some (.string a0_0):=(kC_ BK217.out 0).trans rfl
    have hcz14_1 : wr.cell? ⟨gb217,1,none⟩ = some (.slice A0_1 l0_1.length c0_1):=(kC_ BK217.out 1).trans rfl
    have hcz14_2 : wr.cell? ⟨gb217,2,none⟩ = some (.slice A0_2 l0_2.length c0_2):=(kC_ BK217.out 2).trans rfl
    have hcz14_3 : wr.cell? ⟨gb217,3,none⟩ = some (.slice A0_3 l0_3.length c0_3):=(kC_ BK217.out 3).trans rfl
    have hfz14_0:=kF_ BK217.out 0
    have hfz14_1:=kF_ BK217.out 1
    have hfz14_2:=kF_ BK217.out 2
    have hfz14_3:=kF_ BK217.out 3
    go_wp2_with (first | ((with_reducible refine gate_callee (f:=109) rfl ?_);refine goesL_ (some 23) rfl rfl Tryd.func109 (by kernel_rfl) rfl #[.agg #[.string a0_0,.slice A0_1 l0_1.length c0_1,.slice A0_2 l0_2.length c0_2,.slice A0_3 l0_3.length c0_3],.slice A0_2 l0_2.length c0_2] rfl (by (try simp only [mA_,mC_,mN_]);first | done | rfl | (simp only [lD_,lT_];rfl)) ?_;(with_reducible refine (spec_l9Parts.calls k1 a0_0 _ _ l0_1 _ _ l0_2 _ _ l0_3 _ _ l0_2 t220 _ ?side1 ?side2 ?side3 ?side4 ?side5 ?side6 ?side7 ?side8 A13.out).mono ?_);(case side1=>repeat (first | exact (Kd.C_below HR0_1.out HB.out) | (with_reducible refine cA_ ?_ _) | (with_reducible refine cN_ ?_ _) | (with_reducible refine cD_ ?_)));(case side2=>exact HC0_1.out);(case side3=>repeat (first | exact (Kd.C_below HR0_2.out HB.out) | (with_reducible refine cA_ ?_ _) | (with_reducible refine cN_ ?_ _) | (with_reducible refine cD_ ?_)));(case side4=>exact HC0_2.out);(case side5=>repeat (first | exact (Kd.C_below HR0_3.out HB.out) | (with_reducible refine cA_ ?_ _) | (with_reducible refine cN_ ?_ _) | (with_reducible refine cD_ ?_)));(case side6=>exact HC0_3.out);(case side7=>repeat (first | exact (Kd.C_below HR0_2.out HB.out) | (with_reducible refine cA_ ?_ _) | (with_reducible refine cN_ ?_ _) | (with_reducible refine cD_ ?_)));(case side8=>exact HC0_2.out);rintro e w15 ⟨rfl,hb⟩;refine ⟨_,rfl,?_⟩;have n0_:=aM_ (blk_below (g:=gb217) (o:=.cells #[.string a0_0,.slice A0_1 l0_1.length c0_1,.slice A0_2 l0_2.length c0_2,.slice A0_3 l0_3.length c0_3] 35 (0,0)) (by exact kZ_ BK217) hb);have n1_:=aM_ (bT_ (by exact bZ_ HB) hb);clear BK217;clear HB;have BK217:=n0_;have HB:=n1_;clear n0_ n1_;(try clear hb);(try clear hb2);(try clear hk);(try clear hi)))
    go_ret
    exact ⟨by first | rfl | (simp [errW_none,errW_some] <;> rfl) | (simp [*, errW_none,errW_some] <;> rfl),by exact bZ_ HB⟩
end Go.Proofs.YtipehkeabnfngaaDoor.PFnExactDefText
