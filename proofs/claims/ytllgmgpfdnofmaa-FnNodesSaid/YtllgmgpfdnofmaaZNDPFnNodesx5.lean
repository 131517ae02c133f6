import Derived.Test.YtllgmgpfdnofmaaZNDPFnNodesx0
import Derived.Test.YtllgmgpfdnofmaaZNDPFnNodesx4
namespace Go.Proofs.Ytllgmgpfdnofmaa.PFnNodes
open Go.RowKit Go.Proofs.YtllgmgpfdnofmaaW.PrintWords Go.Proofs.YtllgmgpfdnofmaaW.PrintLast Go.Proofs.YtllgmgpfdnofmaaW.PrintMore Go.Proofs.Ytllgmgpfdnofmaa.Xtra
attribute [local go_sem] max2_int min2_int max_two min_two max_three min_three max_four min_four str_leq str_gtr str_geq setCell_drewN cell_set2 cell_set3   -- for this text's walks alone
set_option linter.unusedVariables false
set_option linter.unusedSimpArgs false
def spec_SizeOf.f (k : Nat) (a0_0 : Bool) (l0_1 : List ByteArray) (l0_2 : List ByteArray) (l0_3 : List Int) : Option (Int):=(spec_l14Put.f k a0_0 l0_1 l0_2 l0_3).bind fun t195=>(some (t195.length : Int))
theorem spec_SizeOf.mono : ∀ a0 a1 a2 a3 k,LeO (spec_SizeOf.f k a0 a1 a2 a3) (spec_SizeOf.f (k + 1) a0 a1 a2 a3):=by
 intro a0 a1 a2 a3 k
 unfold spec_SizeOf.f
 repeat' first
   | (with_reducible exact spec_l14Put.mono _ _ _ _ _)
   | (with_reducible exact LeO.refl _)
   | (with_reducible exact LeO.none _)
   | (with_reducible refine LeO.ite ?_ ?_)
   | (with_reducible refine LeO.bind ?_ (fun _=>?_))
   | exact spec_l14Put.mono _ _ _ _ _
   | exact LeO.none _
   | refine LeO.ite ?_ ?_
   | refine LeO.bind ?_ (fun _=>?_)
set_option maxHeartbeats 8000000 in
set_option maxRecDepth 100000 in
theorem spec_SizeOf.calls (k : Nat) (a0_0 : Bool) (A0_1 : Option Addr) (c0_1 : Nat) (l0_1 : List ByteArray) (A0_2 : Option Addr) (c0_2 : Nat) (l0_2 : List ByteArray) (A0_3 : Option Addr) (c0_3 : Nat) (l0_3 : List Int) (r : Int) (w : World) (hr0_1 : Kd.C Kd.string w A0_1 l0_1.length l0_1) (hc0_1 : l0_1.length ≤ c0_1) (hr0_2 : Kd.C Kd.string w A0_2 l0_2.length l0_2) (hc0_2 : l0_2.length ≤ c0_2) (hr0_3 : Kd.C (Kd.int .i64) w A0_3 l0_3.length l0_3) (hc0_3 : l0_3.length ≤ c0_3) (h : spec_SizeOf.f k a0_0 l0_1 l0_2 l0_3 = some r) :
  Calls Try.prog 31 #[.agg #[.bool a0_0,.slice A0_1 l0_1.length c0_1,.slice A0_2 l0_2.length c0_2,.slice A0_3 l0_3.length c0_3]] w fun e w'=>e = .returned (.int .i64 r) ∧ Below w.heap.size w w':=by
 have hu29:=Try.underlying29
 have HR0_1:=aM_ hr0_1
 have HC0_1:=aM_ hc0_1
 clear hr0_1 hc0_1
 have HR0_2:=aM_ hr0_2
 have HC0_2:=aM_ hc0_2
 clear hr0_2 hc0_2
 have HR0_3:=aM_ hr0_3
 have HC0_3:=aM_ hc0_3
 clear hr0_3 hc0_3
 have HB:=aM_ (Below.refl w.heap.size w)
 have H : ((spec_l14Put.f k a0_0 l0_1 l0_2 l0_3).bind fun t195=>(some (t195.length : Int))) = some r:=h
 clear h
 replace H:=oB_ H
 obtain ⟨t195,A20,H⟩:=H
 replace H : (some (t195.length : Int)) = some r:=H
 have A2:=aM_ A20
 clear A20
 obtain rfl:=Option.some.inj H
 go_enter Try.func31,Try.ntmps31
 go_wp2_with (first | ((with_reducible refine gate_dst (N:=1) rfl ?_);refine box_event ?hg (N:=1) ?hd (cs:=#[.bool a0_0,.slice A0_1 l0_1.length c0_1,.slice A0_2 l0_2.length c0_2,.slice A0_3 l0_3.length c0_3]) (t:=29) ?hr ?_;(case hd=>rfl);(case hg=>rfl);(case hr=>first | (go_simp;done) | (go_simp;rfl));intro gb194 hg w3 hbox hb;have n0_:=aM_ (bT_ (by exact bZ_ HB) hb);have n1_:=aM_ (hbox);have n2_:=aM_ ((by rw [hg];exact (bS_ (by exact bZ_ HB)) : w.heap.size ≤ gb194));have n3_:=aM_ ((by rw [hg];exact (bS_ (by exact bZ_ HB)) : w.heap.size ≤ gb194));clear HB;have HB:=n0_;have BK194:=n1_;have GW194:=n2_;have GE194:=n3_;clear n0_ n1_ n2_ n3_ hb hbox hg;have hcz4_0 : w3.cell? ⟨gb194,0,none⟩ = some (.bool a0_0):=(kC_ BK194.out 0).trans rfl;have hcz4_1 : w3.cell? ⟨gb194,1,none⟩ = some (.slice A0_1 l0_1.length c0_1):=(kC_ BK194.out 1).trans rfl;have hcz4_2 : w3.cell? ⟨gb194,2,none⟩ = some (.slice A0_2 l0_2.length c0_2):=(kC_ BK194.out 2).trans rfl;have hcz4_3 : w3.cell? ⟨gb194,3,none⟩ = some (.slice A0_3 l0_3.length c0_3):=(kC_ BK194.out 3).trans rfl;have hfz4_0:=kF_ BK194.out 0;have hfz4_1:=kF_ BK194.out 1;have hfz4_2:=kF_ BK194.out 2;have hfz4_3:=kF_ BK194.out 3) | ((with_reducible refine gate_callee (f:=68) rfl ?_);refine goesL_ (some 4) rfl rfl Try.func68 (by kernel_rfl) rfl #[.agg #[.bool a0_0,.slice A0_1 l0_1.length c0_1,.slice A0_2 l0_2.length c0_2,.slice A0_3 l0_3.length c0_3]] rfl (by (try simp only [mA_,mC_,mN_]);first | done | rfl | (simp only [lD_,lT_];rfl)) ?_;(with_reducible refine (spec_l14Put.calls k a0_0 _ _ l0_1 _ _ l0_2 _ _ l0_3 t195 _ ?side1 ?side2 ?side3 ?side4 ?side5 ?side6 A2.out).mono ?_);(case side1=>repeat (first | exact (Kd.C_below HR0_1.out HB.out) | (with_reducible refine cA_ ?_ _) | (with_reducible refine cN_ ?_ _) | (with_reducible refine cD_ ?_)));(case side2=>exact HC0_1.out);(case side3=>repeat (first | exact (Kd.C_below HR0_2.out HB.out) | (with_reducible refine cA_ ?_ _) | (with_reducible refine cN_ ?_ _) | (with_reducible refine cD_ ?_)));(case side4=>exact HC0_2.out);(case side5=>repeat (first | exact (Kd.C_below HR0_3.out HB.out) | (with_reducible refine cA_ ?_ _) | (with_reducible refine cN_ ?_ _) | (with_reducible refine cD_ ?_)));(case side6=>exact HC0_3.out);rintro e w5 ⟨v196,rfl,ho0,hb⟩;refine ⟨_,rfl,?_⟩;have n0_:=aM_ (Kd.R_lower ho0 (bS_ (by exact bZ_ HB)));have n1_:=aM_ (blk_below (g:=gb194) (o:=.cells #[.bool a0_0,.slice A0_1 l0_1.length c0_1,.slice A0_2 l0_2.length c0_2,.slice A0_3 l0_3.length c0_3] 29 (0,0)) (by exact kZ_ BK194) hb);have n2_:=aM_ (bT_ (by exact bZ_ HB) hb);clear BK194 HB;have HO197:=n0_;have BK194:=n1_;have HB:=n2_;clear n0_ n1_ n2_ hb ho0;obtain ⟨Ao6,co6,eo6⟩:=Kd.R_slice HO197.out;subst eo6))
 go_ret
 exact ⟨by first | rfl | (simp [errW_none,errW_some] <;> rfl) | (simp [*, errW_none,errW_some] <;> rfl),by exact bZ_ HB⟩
def spec_l14Rising.l0 : Nat → List ByteArray → Int → Option (Bool)
 | 0,_,_=>none
 | k + 1,x0,x3=>if x3 < (x0.length : Int) then (if 0 ≤ x3 then (if ((rdOf ByteArray.empty x0 x3).size : Int) > 48 then (some false) else (if x3 > 0 then (if 0 ≤ (wrap64 (x3 - 1)) then (if (wrap64 (x3 - 1)) < (x0.length : Int) then (if ((Op.bytesLess ((rdOf ByteArray.empty x0 (wrap64 (x3 - 1))).toList) ((rdOf ByteArray.empty x0 x3).toList)) = true) then (spec_l14Rising.l0 k x0 (wrap64 (x3 + 1))) else (some false)) else (none)) else (none)) else (spec_l14Rising.l0 k x0 (wrap64 (x3 + 1))))) else (none)) else (some true)
def spec_l14Rising.f (k : Nat) (l0 : List ByteArray) : Option (Bool):=spec_l14Rising.l0 k l0 0
theorem spec_l14Rising.mono_l : ∀ k,(∀ y0 y1,LeO (spec_l14Rising.l0 k y0 y1) (spec_l14Rising.l0 (k + 1) y0 y1))
 | 0=>fun _ _ r h=>by simp [spec_l14Rising.l0] at h
 | k + 1=>by
  have ih0:=spec_l14Rising.mono_l k
  ·intro y0 y1
   unfold spec_l14Rising.l0
   repeat' first
   | (with_reducible exact ih0 _ _)
   | (with_reducible exact LeO.refl _)
   | (with_reducible exact LeO.none _)
   | (with_reducible refine LeO.ite ?_ ?_)
   | (with_reducible refine LeO.bind ?_ (fun _=>?_))
   | exact ih0 _ _
   | exact LeO.none _
   | refine LeO.ite ?_ ?_
   | refine LeO.bind ?_ (fun _=>?_)
theorem spec_l14Rising.mono : ∀ a0 k,LeO (spec_l14Rising.f k a0) (spec_l14Rising.f (k + 1) a0):=by
 intro a0 k
 have ih0:=spec_l14Rising.mono_l k
 unfold spec_l14Rising.f
 repeat' first
   | (with_reducible exact ih0 _ _)
   | (with_reducible exact LeO.refl _)
   | (with_reducible exact LeO.none _)
   | (with_reducible refine LeO.ite ?_ ?_)
   | (with_reducible refine LeO.bind ?_ (fun _=>?_))
   | exact ih0 _ _
   | exact LeO.none _
   | refine LeO.ite ?_ ?_
   | refine LeO.bind ?_ (fun _=>?_)
set_option maxHeartbeats 8000000 in
set_option maxRecDepth 100000 in
theorem spec_l14Rising.calls (k : Nat) (A0 : Option Addr) (c0 : Nat) (l0 : List ByteArray) (r : Bool) (w : World) (hr0 : Kd.C Kd.string w A0 l0.length l0) (hc0 : l0.length ≤ c0) (h : spec_l14Rising.f k l0 = some r) :
  Calls Try.prog 88 #[.slice A0 l0.length c0] w fun e w'=>e = .returned (.bool r) ∧ Drawn0 w w':=by
 have HR0:=aM_ hr0
 have HC0:=aM_ hc0
 clear hr0 hc0
 have H : (spec_l14Rising.l0 k l0 0) = some r:=h
 clear h
 have H':=aM_ H
 clear H
 go_enter Try.func88,Try.ntmps88
 go_wp2
 repeat (go_quiet (fail);try go_wp2)
 (try simp only [Act.put,sI_,sS_,sZ_])
 go_loopg [3] k (fun kq v3 w'=>∃ (x3_1 : Int),v3 = .int .i64 x3_1 ∧ Aside0 (spec_l14Rising.l0 kq l0 x3_1 = some r) ∧ Aside0 (kq ≤ k) ∧ Drawn0 w w')
 case atStart=>exact ⟨(0),(by first | rfl | (simp;done) | (simp [*];done)),H', ⟨Nat.le_refl _⟩,by repeat (first | exact Drawn0.refl _ | apply Drawn0.step)⟩
 case round =>
  clear H'
  obtain ⟨x3_1,rfl,HA,HK1,⟨m1,rfl⟩⟩:=hrel
  cases gk with
  | zero=>exact absurd HA.out (by simp [spec_l14Rising.l0])
  | succ k1 =>
   have H:=HA.out
   clear HA
   simp only [spec_l14Rising.l0] at H
   by_cases c2 : x3_1 < (l0.length : Int)
   ·rw [if_pos c2] at H
    have c2b0 : decide (x3_1 < (l0.length : Int)) = true:=decide_eq_true c2
    clear c2
    by_cases c3 : 0 ≤ x3_1
    ·rw [if_pos c3] at H
     have c3b0 : decide (0 ≤ x3_1) = true:=decide_eq_true c3
     clear c3
     by_cases c4 : ((rdOf ByteArray.empty l0 x3_1).size : Int) > 48
     ·rw [if_pos c4] at H
      have c4b0 : decide (48 < ((rdOf ByteArray.empty l0 x3_1).size : Int)) = true:=decide_eq_true c4
      have c4b1 : decide (48 < (rdOf ByteArray.empty l0 x3_1).size) = true:=decide_eq_true (by omega)
      clear c4
      obtain rfl:=Option.some.inj H
      have p198 : 0 ≤ (x3_1 : Int):=oT_ (by first | (with_reducible assumption) | assumption)
      have q198 : x3_1 < (l0.length : Int):=oT_ (by first | (with_reducible assumption) | assumption)
      obtain ⟨ad198,e198,hx198_0⟩:=Kd.at_string HR0.out x3_1 p198 q198
      cases e198
      replace p198:=eq_true p198
      replace q198:=eq_true q198
      go_wp2
      repeat (go_quiet (fail);try go_wp2)
      go_ret
      exact ⟨by first | rfl | (simp;done) | (simp [*];done),by repeat (first | exact Drawn0.refl _ | apply Drawn0.step)⟩
     ·rw [if_neg c4] at H
      have c4b0 : decide (48 < ((rdOf ByteArray.empty l0 x3_1).size : Int)) = false:=decide_eq_false c4
      have c4b1 : decide (48 < (rdOf ByteArray.empty l0 x3_1).size) = false:=decide_eq_false (by omega)
      clear c4
      by_cases c5 : x3_1 > 0
      ·rw [if_pos c5] at H
       have c5b0 : decide (0 < x3_1) = true:=decide_eq_true c5
       clear c5
       obtain ⟨ji6,hji6⟩ : ∃ j_ : Int,(wrap64 (x3_1 - 1)) = j_:=⟨_,rfl⟩
       replace H : (if 0 ≤ (ji6) then (if (ji6) < (l0.length : Int) then (if ((Op.bytesLess ((rdOf ByteArray.empty l0 (ji6)).toList) ((rdOf ByteArray.empty l0 x3_1).toList)) = true) then (spec_l14Rising.l0 k1 l0 (wrap64 (x3_1 + 1))) else (some false)) else (none)) else (none)) = some r:=by first | (rw [hji6] at H;exact H) | (simp only [hji6] at H ⊢;exact H)
       have hji6w : (IntKind.i64.wrap (x3_1 - 1)) = ji6:=(i64_w _).trans hji6
       by_cases c7 : 0 ≤ (ji6)
       ·rw [if_pos c7] at H
        have c7b0 : decide (0 ≤ (ji6)) = true:=decide_eq_true c7
        clear c7
        by_cases c8 : (ji6) < (l0.length : Int)
        ·rw [if_pos c8] at H
         have c8b0 : decide ((ji6) < (l0.length : Int)) = true:=decide_eq_true c8
         clear c8
         by_cases c9 : ((Op.bytesLess ((rdOf ByteArray.empty l0 (ji6)).toList) ((rdOf ByteArray.empty l0 x3_1).toList)) = true)
         ·rw [if_pos c9] at H
          have c9b0 : (Op.bytesLess ((rdOf ByteArray.empty l0 (ji6)).toList) ((rdOf ByteArray.empty l0 x3_1).toList)) = true:=c9
          clear c9
          have H':=aM_ H
          clear H
          have p198 : 0 ≤ (x3_1 : Int):=oT_ (by first | (with_reducible assumption) | assumption)
          have q198 : x3_1 < (l0.length : Int):=oT_ (by first | (with_reducible assumption) | assumption)
          obtain ⟨ad198,e198,hx198_0⟩:=Kd.at_string HR0.out x3_1 p198 q198
          cases e198
          replace p198:=eq_true p198
          replace q198:=eq_true q198
          have p199 : 0 ≤ ((ji6) : Int):=oT_ (by first | (with_reducible assumption) | assumption)
          have q199 : (ji6) < (l0.length : Int):=oT_ (by first | (with_reducible assumption) | assumption)
          obtain ⟨ad199,e199,hx199_0⟩:=Kd.at_string HR0.out (ji6) p199 q199
          obtain rfl : ad198 = ad199:=(by injection e199)
          replace p199:=eq_true p199
          replace q199:=eq_true q199
          have p200 : 0 ≤ (x3_1 : Int):=oT_ (by first | (with_reducible assumption) | assumption)
          have q200 : x3_1 < (l0.length : Int):=oT_ (by first | (with_reducible assumption) | assumption)
          obtain ⟨ad200,e200,hx200_0⟩:=Kd.at_string HR0.out x3_1 p200 q200
          obtain rfl : ad198 = ad200:=(by injection e200)
          replace p200:=eq_true p200
          replace q200:=eq_true q200
          go_wp2
          repeat (go_quiet (fail);try go_wp2)
          go_roundg k1
          case measure=>have:=HK1.out;omega
          case rel=>exact ⟨(wrap64 (x3_1 + 1)),(by first | rfl | (simp;done) | (simp [*];done)),H', ⟨by have:=HK1.out;omega⟩,by repeat (first | exact Drawn0.refl _ | apply Drawn0.step)⟩
         ·rw [if_neg c9] at H
          have c9b0 : (Op.bytesLess ((rdOf ByteArray.empty l0 (ji6)).toList) ((rdOf ByteArray.empty l0 x3_1).toList)) = false:=by simpa using c9
          clear c9
          obtain rfl:=Option.some.inj H
          have p198 : 0 ≤ (x3_1 : Int):=oT_ (by first | (with_reducible assumption) | assumption)
          have q198 : x3_1 < (l0.length : Int):=oT_ (by first | (with_reducible assumption) | assumption)
          obtain ⟨ad198,e198,hx198_0⟩:=Kd.at_string HR0.out x3_1 p198 q198
          cases e198
          replace p198:=eq_true p198
          replace q198:=eq_true q198
          have p199 : 0 ≤ ((ji6) : Int):=oT_ (by first | (with_reducible assumption) | assumption)
          have q199 : (ji6) < (l0.length : Int):=oT_ (by first | (with_reducible assumption) | assumption)
          obtain ⟨ad199,e199,hx199_0⟩:=Kd.at_string HR0.out (ji6) p199 q199
          obtain rfl : ad198 = ad199:=(by injection e199)
          replace p199:=eq_true p199
          replace q199:=eq_true q199
          have p200 : 0 ≤ (x3_1 : Int):=oT_ (by first | (with_reducible assumption) | assumption)
          have q200 : x3_1 < (l0.length : Int):=oT_ (by first | (with_reducible assumption) | assumption)
          obtain ⟨ad200,e200,hx200_0⟩:=Kd.at_string HR0.out x3_1 p200 q200
          obtain rfl : ad198 = ad200:=(by injection e200)
          replace p200:=eq_true p200
          replace q200:=eq_true q200
          go_wp2
          repeat (go_quiet (fail);try go_wp2)
          go_ret
          exact ⟨by first | rfl | (simp;done) | (simp only [← hji6] <;> (first | rfl | simp)) | (simp [*];done),by repeat (first | exact Drawn0.refl _ | apply Drawn0.step)⟩
        ·rw [if_neg c8] at H
         exact absurd H (by simp)
       ·rw [if_neg c7] at H
        exact absurd H (by simp)
      ·rw [if_neg c5] at H
       have c5b0 : decide (0 < x3_1) = false:=decide_eq_false c5
       clear c5
       have H':=aM_ H
       clear H
       have p198 : 0 ≤ (x3_1 : Int):=oT_ (by first | (with_reducible assumption) | assumption)
       have q198 : x3_1 < (l0.length : Int):=oT_ (by first | (with_reducible assumption) | assumption)
       obtain ⟨ad198,e198,hx198_0⟩:=Kd.at_string HR0.out x3_1 p198 q198
       cases e198
       replace p198:=eq_true p198
       replace q198:=eq_true q198
       go_wp2
       repeat (go_quiet (fail);try go_wp2)
       go_roundg k1
       case measure=>have:=HK1.out;omega
       case rel=>exact ⟨(wrap64 (x3_1 + 1)),(by first | rfl | (simp;done) | (simp [*];done)),H', ⟨by have:=HK1.out;omega⟩,by repeat (first | exact Drawn0.refl _ | apply Drawn0.step)⟩
    ·rw [if_neg c3] at H
     exact absurd H (by simp)
   ·rw [if_neg c2] at H
    have c2b0 : decide (x3_1 < (l0.length : Int)) = false:=decide_eq_false c2
    clear c2
    obtain rfl:=Option.some.inj H
    go_wp2
    repeat (go_quiet (fail);try go_wp2)
    go_ret
    exact ⟨by first | rfl | (simp;done) | (simp [*];done),by repeat (first | exact Drawn0.refl _ | apply Drawn0.step)⟩
def spec_l1In.f (a0 : Int) (a1 : Int) (a2 : Int) : Option (Bool):=if a0 ≥ a1 then (some (decide (a0 ≤ a2))) else (some false)
set_option maxHeartbeats 8000000 in
set_option maxRecDepth 100000 in
theorem spec_l1In.calls (a0 : Int) (a1 : Int) (a2 : Int) (r : Bool) (w : World) (h : spec_l1In.f a0 a1 a2 = some r) :
  Calls Try.prog 89 #[.int .i64 a0,.int .i64 a1,.int .i64 a2] w fun e w'=>e = .returned (.bool r) ∧ Drawn0 w w':=by
 have H : (if a0 ≥ a1 then (some (decide (a0 ≤ a2))) else (some false)) = some r:=h
 clear h
 by_cases c4 : a0 ≥ a1
 ·rw [if_pos c4] at H
  have c4b0 : decide (a1 ≤ a0) = true:=decide_eq_true c4
  clear c4
  obtain rfl:=Option.some.inj H
  go_enter Try.func89,Try.ntmps89
  go_wp2
  go_ret
  exact ⟨by first | rfl | (simp;done) | (simp [*];done),by repeat (first | exact Drawn0.refl _ | apply Drawn0.step)⟩
 ·rw [if_neg c4] at H
  have c4b0 : decide (a1 ≤ a0) = false:=decide_eq_false c4
  clear c4
  obtain rfl:=Option.some.inj H
  go_enter Try.func89,Try.ntmps89
  go_wp2
  go_ret
  exact ⟨by first | rfl | (simp;done) | (simp [*];done),by repeat (first | exact Drawn0.refl _ | apply Drawn0.step)⟩
end Go.Proofs.Ytllgmgpfdnofmaa.PFnNodes
