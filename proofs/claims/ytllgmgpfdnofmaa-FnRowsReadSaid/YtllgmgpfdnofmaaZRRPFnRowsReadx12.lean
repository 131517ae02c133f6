import Derived.Test.YtllgmgpfdnofmaaZRRPFnRowsReadx0
import Derived.Test.YtllgmgpfdnofmaaZRRPFnRowsReadx11
namespace Go.Proofs.Ytllgmgpfdnofmaa.PFnRowsRead
open Go.RowKit Go.Proofs.YtllgmgpfdnofmaaW.PrintWords Go.Proofs.YtllgmgpfdnofmaaW.PrintLast Go.Proofs.YtllgmgpfdnofmaaW.PrintMore Go.Proofs.Ytllgmgpfdnofmaa.Xtra
attribute [local go_sem] max2_int min2_int max_two min_two max_three min_three max_four min_four str_leq str_gtr str_geq setCell_drewN cell_set2 cell_set3   -- for this text's walks alone
set_option linter.unusedVariables false
set_option linter.unusedSimpArgs false
def spec_l1Byte.f (s0_0 : List Int) (s0_1 : Int) (s0_2 : Int) : Option (Int × Int × Int):=if s0_1 < (s0_0.length : Int) then (if 0 ≤ s0_1 then (some (Go.bits .and .i64 (wrap64 ((Go.bits .and .i64 (Go.bits .xor .i64 ((wrap64 ((wrap64 (s0_2 * 6364136223846793005)) + 1442695040888963407)) / 8589934592) ((wrap64 ((wrap64 (s0_2 * 6364136223846793005)) + 1442695040888963407)) / 140737488355328)) 255) + (wrap64 (rd s0_0 s0_1)))) 255,wrap64 (s0_1 + 1),wrap64 ((wrap64 (s0_2 * 6364136223846793005)) + 1442695040888963407))) else (none)) else (some (Go.bits .and .i64 (Go.bits .xor .i64 ((wrap64 ((wrap64 (s0_2 * 6364136223846793005)) + 1442695040888963407)) / 8589934592) ((wrap64 ((wrap64 (s0_2 * 6364136223846793005)) + 1442695040888963407)) / 140737488355328)) 255,s0_1,wrap64 ((wrap64 (s0_2 * 6364136223846793005)) + 1442695040888963407)))
set_option maxHeartbeats 8000000 in
set_option maxRecDepth 100000 in
theorem spec_l1Byte.calls (g : Nat) (s0_0 : List Int) (s0_1 : Int) (s0_2 : Int) (r1 : Int) (r2 : Int) (r3 : Int) (w0 w : World) (hI : J155 w0 w g s0_0 s0_1 s0_2) (hB : Below w0.heap.size w0 w) (h : spec_l1Byte.f s0_0 s0_1 s0_2 = some (r1,r2,r3)) :
  Calls Try.prog 170 #[.pointer (some ⟨g,0,none⟩)] w fun e w'=>e = .returned (.int .i64 r1) ∧ J155 w0 w' g s0_0 r2 r3 ∧ Below w0.heap.size w0 w' ∧ KeepBut w w' g none:=by
 have HI0:=aM_ hI
 have HK:=aM_ (KeepBut.refl w g none)
 have HL:=aM_ hB.size
 clear hI
 have HW0:=aM_ hB.size
 have HB:=aM_ hB
 clear hB
 have H : (if s0_1 < (s0_0.length : Int) then (if 0 ≤ s0_1 then (some (Go.bits .and .i64 (wrap64 ((Go.bits .and .i64 (Go.bits .xor .i64 ((wrap64 ((wrap64 (s0_2 * 6364136223846793005)) + 1442695040888963407)) / 8589934592) ((wrap64 ((wrap64 (s0_2 * 6364136223846793005)) + 1442695040888963407)) / 140737488355328)) 255) + (wrap64 (rd s0_0 s0_1)))) 255,wrap64 (s0_1 + 1),wrap64 ((wrap64 (s0_2 * 6364136223846793005)) + 1442695040888963407))) else (none)) else (some (Go.bits .and .i64 (Go.bits .xor .i64 ((wrap64 ((wrap64 (s0_2 * 6364136223846793005)) + 1442695040888963407)) / 8589934592) ((wrap64 ((wrap64 (s0_2 * 6364136223846793005)) + 1442695040888963407)) / 140737488355328)) 255,s0_1,wrap64 ((wrap64 (s0_2 * 6364136223846793005)) + 1442695040888963407)))) = some (r1,r2,r3):=h
 clear h
 by_cases c2 : s0_1 < (s0_0.length : Int)
 ·rw [if_pos c2] at H
  have c2b0 : decide (s0_1 < (s0_0.length : Int)) = true:=decide_eq_true c2
  clear c2
  by_cases c3 : 0 ≤ s0_1
  ·rw [if_pos c3] at H
   have c3b0 : decide (0 ≤ s0_1) = true:=decide_eq_true c3
   clear c3
   simp only [Option.some.injEq,Prod.mk.injEq] at H
   obtain ⟨rfl,rfl,rfl⟩:=H
   obtain ⟨ASz4_0,cSz4_0,HGz4,hgz4,HSz4_0,HLnz4_0⟩:=HI0.out
   have hcz4_0:=cellS155_0 HGz4
   have hcz4_1:=cellS155_1 HGz4
   have hcz4_2:=cellS155_2 HGz4
   have hfz4_1:=kF_ HGz4 1
   have hfz4_2:=kF_ HGz4 2
   clear HGz4 hgz4
   have p472 : 0 ≤ (s0_1 : Int):=oT_ (by first | (with_reducible assumption) | assumption)
   have q472 : s0_1 < (s0_0.length : Int):=oT_ (by first | (with_reducible assumption) | assumption)
   obtain ⟨ad472,e472,hx472_0⟩:=Kd.at_int HSz4_0 s0_1 p472 q472
   cases e472
   have hn472_0 : ad472.block ≠ g:=nN_ (nL_ (by have:=wL_ _ _ hx472_0;first | rwa [add_block] at this | exact this) (J155.ge HI0.out))
   replace hx472_0:=pw_cell_below HB.out hx472_0
   replace hx472_0:=(cell_far (p:=⟨g,2,none⟩) (by first | (rw [add_block];exact hn472_0) | (show (Addr.add _ _).block ≠ _;rw [add_block];exact hn472_0) | exact hn472_0) (.int .i64 (wrap64 ((wrap64 (s0_2 * 6364136223846793005)) + 1442695040888963407)))).trans hx472_0
   (try have hy472_0:=fun (n_ : Nat)=>(show (((w.drewN n_).setCell ⟨g,2,none⟩ (.int .i64 (wrap64 ((wrap64 (s0_2 * 6364136223846793005)) + 1442695040888963407))))).cell? _ = some _ from hx472_0))
   clear hn472_0
   replace p472:=eq_true p472
   replace q472:=eq_true q472
   go_enter Try.func170,Try.ntmps170
   go_wp2
   repeat (go_quiet (fail);try go_wp2)
   go_ret
   exact ⟨by first | rfl | (simp [errW_none,errW_some] <;> rfl) | (simp [*, errW_none,errW_some] <;> rfl),by repeat first | exact J155.z HI0 | apply J155.set_1 | apply J155.set_2 | refine J155.y ?_,by have e0_:=aM_ (J155.ge HI0.out);exact bZ_ HB,by exact eZ_ HK⟩
  ·rw [if_neg c3] at H
   exact absurd H (by simp)
 ·rw [if_neg c2] at H
  have c2b0 : decide (s0_1 < (s0_0.length : Int)) = false:=decide_eq_false c2
  clear c2
  simp only [Option.some.injEq,Prod.mk.injEq] at H
  obtain ⟨rfl,rfl,rfl⟩:=H
  obtain ⟨ASz5_0,cSz5_0,HGz5,hgz5,HSz5_0,HLnz5_0⟩:=HI0.out
  have hcz5_0:=cellS155_0 HGz5
  have hcz5_1:=cellS155_1 HGz5
  have hcz5_2:=cellS155_2 HGz5
  have hfz5_1:=kF_ HGz5 1
  have hfz5_2:=kF_ HGz5 2
  clear HGz5 hgz5
  go_enter Try.func170,Try.ntmps170
  go_wp2
  repeat (go_quiet (fail);try go_wp2)
  go_ret
  exact ⟨by first | rfl | (simp [errW_none,errW_some] <;> rfl) | (simp [*, errW_none,errW_some] <;> rfl),by repeat first | exact J155.z HI0 | apply J155.set_1 | apply J155.set_2 | refine J155.y ?_,by have e0_:=aM_ (J155.ge HI0.out);exact bZ_ HB,by exact eZ_ HK⟩
def spec_l1Below.f (s0_0 : List Int) (s0_1 : Int) (s0_2 : Int) (a1 : Int) : Option (Int × Int × Int):=if a1 ≤ 0 then (some (0,s0_1,s0_2)) else (if a1 ≤ 256 then ((spec_l1Byte.f s0_0 s0_1 s0_2).bind fun bt473=>(if a1 = 0 then (none) else (some (Int.tmod bt473.1 a1,bt473.2.1,bt473.2.2)))) else ((spec_l1Byte.f s0_0 s0_1 s0_2).bind fun bt476=>((spec_l1Byte.f s0_0 bt476.2.1 bt476.2.2).bind fun bt479=>((spec_l1Byte.f s0_0 bt479.2.1 bt479.2.2).bind fun bt482=>(if a1 = 0 then (none) else (some (Int.tmod (wrap64 ((wrap64 ((wrap64 (bt476.1 * 65536)) + (wrap64 (bt479.1 * 256)))) + bt482.1)) a1,bt482.2.1,bt482.2.2)))))))
set_option maxHeartbeats 8000000 in
set_option maxRecDepth 100000 in
theorem spec_l1Below.calls (g : Nat) (s0_0 : List Int) (s0_1 : Int) (s0_2 : Int) (a1 : Int) (r1 : Int) (r2 : Int) (r3 : Int) (w0 w : World) (hI : J155 w0 w g s0_0 s0_1 s0_2) (hB : Below w0.heap.size w0 w) (h : spec_l1Below.f s0_0 s0_1 s0_2 a1 = some (r1,r2,r3)) :
  Calls Try.prog 125 #[.pointer (some ⟨g,0,none⟩),.int .i64 a1] w fun e w'=>e = .returned (.int .i64 r1) ∧ J155 w0 w' g s0_0 r2 r3 ∧ Below w0.heap.size w0 w' ∧ KeepBut w w' g none:=by
 have HI0:=aM_ hI
 have HK:=aM_ (KeepBut.refl w g none)
 have HL:=aM_ hB.size
 clear hI
 have HW0:=aM_ hB.size
 have HB:=aM_ hB
 clear hB
 have H : (if a1 ≤ 0 then (some (0,s0_1,s0_2)) else (if a1 ≤ 256 then ((spec_l1Byte.f s0_0 s0_1 s0_2).bind fun bt473=>(if a1 = 0 then (none) else (some (Int.tmod bt473.1 a1,bt473.2.1,bt473.2.2)))) else ((spec_l1Byte.f s0_0 s0_1 s0_2).bind fun bt476=>((spec_l1Byte.f s0_0 bt476.2.1 bt476.2.2).bind fun bt479=>((spec_l1Byte.f s0_0 bt479.2.1 bt479.2.2).bind fun bt482=>(if a1 = 0 then (none) else (some (Int.tmod (wrap64 ((wrap64 ((wrap64 (bt476.1 * 65536)) + (wrap64 (bt479.1 * 256)))) + bt482.1)) a1,bt482.2.1,bt482.2.2)))))))) = some (r1,r2,r3):=h
 clear h
 by_cases c3 : a1 ≤ 0
 ·rw [if_pos c3] at H
  have c3b0 : decide (a1 ≤ 0) = true:=decide_eq_true c3
  clear c3
  simp only [Option.some.injEq,Prod.mk.injEq] at H
  obtain ⟨rfl,rfl,rfl⟩:=H
  go_enter Try.func125,Try.ntmps125
  go_wp2
  go_ret
  exact ⟨by first | rfl | (simp [errW_none,errW_some] <;> rfl) | (simp [*, errW_none,errW_some] <;> rfl),by repeat first | exact J155.z HI0 | apply J155.set_1 | apply J155.set_2 | refine J155.y ?_,by have e0_:=aM_ (J155.ge HI0.out);exact bZ_ HB,by exact eZ_ HK⟩
 ·rw [if_neg c3] at H
  have c3b0 : decide (a1 ≤ 0) = false:=decide_eq_false c3
  clear c3
  by_cases c4 : a1 ≤ 256
  ·rw [if_pos c4] at H
   have c4b0 : decide (a1 ≤ 256) = true:=decide_eq_true c4
   clear c4
   replace H:=oB_ H
   obtain ⟨⟨t473,t474,t475⟩,A50,H⟩:=H
   replace H : (if a1 = 0 then (none) else (some (Int.tmod t473 a1,t474,t475))) = some (r1,r2,r3):=H
   have A5:=aM_ A50
   clear A50
   by_cases c6 : a1 = 0
   ·rw [if_pos c6] at H
    exact absurd H (by simp)
   ·rw [if_neg c6] at H
    have c6b0 : (a1 == 0) = false:=beq_eq_false_iff_ne.mpr c6
    have c6b1 : (a1 != 0) = true:=bne_iff_ne.mpr c6
    simp only [Option.some.injEq,Prod.mk.injEq] at H
    obtain ⟨rfl,rfl,rfl⟩:=H
    go_enter Try.func125,Try.ntmps125
    go_wp2_with (first | ((with_reducible refine gate_callee (f:=170) rfl ?_);refine goesL_ (some 13) rfl rfl Try.func170 (by kernel_rfl) rfl #[.pointer (some ⟨g,0,none⟩)] rfl (by (try simp only [mA_,mC_,mN_]);first | done | rfl | (simp only [lD_,lT_];rfl)) ?_;(with_reducible refine (spec_l1Byte.calls g s0_0 s0_1 s0_2 t473 t474 t475 w0 _ ?side1 ?side2 A5.out).mono ?_);(case side1=>repeat first | exact J155.z HI0 | apply J155.set_1 | apply J155.set_2 | refine J155.y ?_);(case side2=>have e0_:=aM_ (J155.ge HI0.out);exact bZ_ HB);rintro e w7 ⟨rfl,hi,hb,hk⟩;refine ⟨_,rfl,?_⟩;have n0_:=aM_ (KeepBut.trans (by exact eZ_ HK) hk (.inl rfl));have n1_:=aM_ (hb);have n2_:=aM_ (hi);clear HK;clear HB;clear HI0;have HK:=n0_;have HB:=n1_;have HI0:=n2_;clear n0_ n1_ n2_;(try clear hb);(try clear hb2);(try clear hk);(try clear hi)))
    go_ret
    exact ⟨by first | rfl | (simp [errW_none,errW_some] <;> rfl) | (simp [*, errW_none,errW_some] <;> rfl),by repeat first | exact J155.z HI0 | apply J155.set_1 | apply J155.set_2 | refine J155.y ?_,by have e0_:=aM_ (J155.ge HI0.out);exact bZ_ HB,by exact eZ_ HK⟩
  ·rw [if_neg c4] at H
   have c4b0 : decide (a1 ≤ 256) = false:=decide_eq_false c4
   clear c4
   replace H:=oB_ H
   obtain ⟨⟨t476,t477,t478⟩,A80,H⟩:=H
   replace H : ((spec_l1Byte.f s0_0 t477 t478).bind fun bt479=>((spec_l1Byte.f s0_0 bt479.2.1 bt479.2.2).bind fun bt482=>(if a1 = 0 then (none) else (some (Int.tmod (wrap64 ((wrap64 ((wrap64 (t476 * 65536)) + (wrap64 (bt479.1 * 256)))) + bt482.1)) a1,bt482.2.1,bt482.2.2))))) = some (r1,r2,r3):=H
   have A8:=aM_ A80
   clear A80
   replace H:=oB_ H
   obtain ⟨⟨t479,t480,t481⟩,A90,H⟩:=H
   replace H : ((spec_l1Byte.f s0_0 t480 t481).bind fun bt482=>(if a1 = 0 then (none) else (some (Int.tmod (wrap64 ((wrap64 ((wrap64 (t476 * 65536)) + (wrap64 (t479 * 256)))) + bt482.1)) a1,bt482.2.1,bt482.2.2)))) = some (r1,r2,r3):=H
   have A9:=aM_ A90
   clear A90
   replace H:=oB_ H
   obtain ⟨⟨t482,t483,t484⟩,A100,H⟩:=H
   replace H : (if a1 = 0 then (none) else (some (Int.tmod (wrap64 ((wrap64 ((wrap64 (t476 * 65536)) + (wrap64 (t479 * 256)))) + t482)) a1,t483,t484))) = some (r1,r2,r3):=H
   have A10:=aM_ A100
   clear A100
   by_cases c11 : a1 = 0
   ·rw [if_pos c11] at H
    exact absurd H (by simp)
   ·rw [if_neg c11] at H
    have c11b0 : (a1 == 0) = false:=beq_eq_false_iff_ne.mpr c11
    have c11b1 : (a1 != 0) = true:=bne_iff_ne.mpr c11
    simp only [Option.some.injEq,Prod.mk.injEq] at H
    obtain ⟨rfl,rfl,rfl⟩:=H
    go_enter Try.func125,Try.ntmps125
    go_wp2_with (first | ((with_reducible refine gate_callee (f:=170) rfl ?_);refine goesL_ (some 17) rfl rfl Try.func170 (by kernel_rfl) rfl #[.pointer (some ⟨g,0,none⟩)] rfl (by (try simp only [mA_,mC_,mN_]);first | done | rfl | (simp only [lD_,lT_];rfl)) ?_;(with_reducible refine (spec_l1Byte.calls g s0_0 s0_1 s0_2 t476 t477 t478 w0 _ ?side1 ?side2 A8.out).mono ?_);(case side1=>repeat first | exact J155.z HI0 | apply J155.set_1 | apply J155.set_2 | refine J155.y ?_);(case side2=>have e0_:=aM_ (J155.ge HI0.out);exact bZ_ HB);rintro e w12 ⟨rfl,hi,hb,hk⟩;refine ⟨_,rfl,?_⟩;have n0_:=aM_ (KeepBut.trans (by exact eZ_ HK) hk (.inl rfl));have n1_:=aM_ (hb);have n2_:=aM_ (hi);clear HK;clear HB;clear HI0;have HK:=n0_;have HB:=n1_;have HI0:=n2_;clear n0_ n1_ n2_;(try clear hb);(try clear hb2);(try clear hk);(try clear hi)) | ((with_reducible refine gate_callee (f:=170) rfl ?_);refine goesL_ (some 19) rfl rfl Try.func170 (by kernel_rfl) rfl #[.pointer (some ⟨g,0,none⟩)] rfl (by (try simp only [mA_,mC_,mN_]);first | done | rfl | (simp only [lD_,lT_];rfl)) ?_;(with_reducible refine (spec_l1Byte.calls g s0_0 t477 t478 t479 t480 t481 w0 _ ?side1 ?side2 A9.out).mono ?_);(case side1=>repeat first | exact J155.z HI0 | apply J155.set_1 | apply J155.set_2 | refine J155.y ?_);(case side2=>have e0_:=aM_ (J155.ge HI0.out);exact bZ_ HB);rintro e w13 ⟨rfl,hi,hb,hk⟩;refine ⟨_,rfl,?_⟩;have n0_:=aM_ (KeepBut.trans (by exact eZ_ HK) hk (.inl rfl));have n1_:=aM_ (hb);have n2_:=aM_ (hi);clear HK;clear HB;clear HI0;have HK:=n0_;have HB:=n1_;have HI0:=n2_;clear n0_ n1_ n2_;(try clear hb);(try clear hb2);(try clear hk);(try clear hi)) | ((with_reducible refine gate_callee (f:=170) rfl ?_);refine goesL_ (some 21) rfl rfl Try.func170 (by kernel_rfl) rfl #[.pointer (some ⟨g,0,none⟩)] rfl (by (try simp only [mA_,mC_,mN_]);first | done | rfl | (simp only [lD_,lT_];rfl)) ?_;(with_reducible refine (spec_l1Byte.calls g s0_0 t480 t481 t482 t483 t484 w0 _ ?side1 ?side2 A10.out).mono ?_);(case side1=>repeat first | exact J155.z HI0 | apply J155.set_1 | apply J155.set_2 | refine J155.y ?_);(case side2=>have e0_:=aM_ (J155.ge HI0.out);exact bZ_ HB);rintro e w14 ⟨rfl,hi,hb,hk⟩;refine ⟨_,rfl,?_⟩;have n0_:=aM_ (KeepBut.trans (by exact eZ_ HK) hk (.inl rfl));have n1_:=aM_ (hb);have n2_:=aM_ (hi);clear HK;clear HB;clear HI0;have HK:=n0_;have HB:=n1_;have HI0:=n2_;clear n0_ n1_ n2_;(try clear hb);(try clear hb2);(try clear hk);(try clear hi)))
    go_ret
    exact ⟨by first | rfl | (simp [errW_none,errW_some] <;> rfl) | (simp [*, errW_none,errW_some] <;> rfl),by repeat first | exact J155.z HI0 | apply J155.set_1 | apply J155.set_2 | refine J155.y ?_,by have e0_:=aM_ (J155.ge HI0.out);exact bZ_ HB,by exact eZ_ HK⟩
def spec_l1Int.f (s0_0 : List Int) (s0_1 : Int) (s0_2 : Int) (l1 : List Int) : Option (Int × Int × Int):=(spec_l1Below.f s0_0 s0_1 s0_2 (l1.length : Int)).bind fun bt485=>(if 0 ≤ bt485.1 then (if bt485.1 < (l1.length : Int) then (some (rd l1 bt485.1,bt485.2.1,bt485.2.2)) else (none)) else (none))
set_option maxHeartbeats 8000000 in
set_option maxRecDepth 100000 in
theorem spec_l1Int.calls (g : Nat) (s0_0 : List Int) (s0_1 : Int) (s0_2 : Int) (A1 : Option Addr) (c1 : Nat) (l1 : List Int) (r1 : Int) (r2 : Int) (r3 : Int) (w0 w : World) (hI : J155 w0 w g s0_0 s0_1 s0_2) (hB : Below w0.heap.size w0 w) (hr1 : Kd.C (Kd.int .i64) w A1 l1.length l1) (hc1 : l1.length ≤ c1) (hf1 : ∀ ad,A1 = some ad → 0 < l1.length → ad.block ≠ g) (h : spec_l1Int.f s0_0 s0_1 s0_2 l1 = some (r1,r2,r3)) :
  Calls Try.prog 145 #[.pointer (some ⟨g,0,none⟩),.slice A1 l1.length c1] w fun e w'=>e = .returned (.int .i64 r1) ∧ J155 w0 w' g s0_0 r2 r3 ∧ Below w0.heap.size w0 w' ∧ KeepBut w w' g none:=by
 have HR1:=aM_ hr1
 have HC1:=aM_ hc1
 clear hr1 hc1
 have HI0:=aM_ hI
 have HK:=aM_ (KeepBut.refl w g none)
 have HL:=aM_ hB.size
 clear hI
 have HW0:=aM_ hB.size
 have HB:=aM_ hB
 clear hB
 have H : ((spec_l1Below.f s0_0 s0_1 s0_2 (l1.length : Int)).bind fun bt485=>(if 0 ≤ bt485.1 then (if bt485.1 < (l1.length : Int) then (some (rd l1 bt485.1,bt485.2.1,bt485.2.2)) else (none)) else (none))) = some (r1,r2,r3):=h
 clear h
 replace H:=oB_ H
 obtain ⟨⟨t485,t486,t487⟩,A30,H⟩:=H
 replace H : (if 0 ≤ t485 then (if t485 < (l1.length : Int) then (some (rd l1 t485,t486,t487)) else (none)) else (none)) = some (r1,r2,r3):=H
 have A3:=aM_ A30
 clear A30
 by_cases c4 : 0 ≤ t485
 ·rw [if_pos c4] at H
  have c4b0 : decide (0 ≤ t485) = true:=decide_eq_true c4
  clear c4
  by_cases c5 : t485 < (l1.length : Int)
  ·rw [if_pos c5] at H
   have c5b0 : decide (t485 < (l1.length : Int)) = true:=decide_eq_true c5
   clear c5
   simp only [Option.some.injEq,Prod.mk.injEq] at H
   obtain ⟨rfl,rfl,rfl⟩:=H
   go_enter Try.func145,Try.ntmps145
   go_wp2_with (first | ((with_reducible refine gate_callee (f:=125) rfl ?_);refine goesL_ (some 9) rfl rfl Try.func125 (by kernel_rfl) rfl #[.pointer (some ⟨g,0,none⟩),.int .i64 (l1.length : Int)] rfl (by (try simp only [mA_,mC_,mN_]);first | done | rfl | (simp only [lD_,lT_];rfl)) ?_;(with_reducible refine (spec_l1Below.calls g s0_0 s0_1 s0_2 (l1.length : Int) t485 t486 t487 w0 _ ?side1 ?side2 A3.out).mono ?_);(case side1=>repeat first | exact J155.z HI0 | apply J155.set_1 | apply J155.set_2 | refine J155.y ?_);(case side2=>have e0_:=aM_ (J155.ge HI0.out);exact bZ_ HB);rintro e w6 ⟨rfl,hi,hb,hk⟩;refine ⟨_,rfl,?_⟩;have n0_:=aM_ (KeepBut.trans (by exact eZ_ HK) hk (.inl rfl));have n1_:=aM_ (hb);have n2_:=aM_ (hi);clear HK;clear HB;clear HI0;have HK:=n0_;have HB:=n1_;have HI0:=n2_;clear n0_ n1_ n2_;(try clear hb);(try clear hb2);(try clear hk);(try clear hi);have p488 : 0 ≤ (t485 : Int):=oT_ (by first | (with_reducible assumption) | assumption);have q488 : t485 < (l1.length : Int):=oT_ (by first | (with_reducible assumption) | assumption);obtain ⟨ad488,e488,hx488_0⟩:=Kd.at_int HR1.out t485 p488 q488;cases e488;replace hx488_0:=keep_cell HK.out hx488_0 (by first | (rw [add_block];exact hf1 _ rfl (by omega)) | exact hf1 _ rfl (by omega) | exact hf1 ad488 rfl (by omega));replace p488:=eq_true p488;replace q488:=eq_true q488))
   go_ret
   exact ⟨by first | rfl | (simp [errW_none,errW_some] <;> rfl) | (simp [*, errW_none,errW_some] <;> rfl),by repeat first | exact J155.z HI0 | apply J155.set_1 | apply J155.set_2 | refine J155.y ?_,by have e0_:=aM_ (J155.ge HI0.out);exact bZ_ HB,by exact eZ_ HK⟩
  ·rw [if_neg c5] at H
   exact absurd H (by simp)
 ·rw [if_neg c4] at H
  exact absurd H (by simp)
def spec_l1Bend.f (s0_0 : List Int) (s0_1 : Int) (s0_2 : Int) (l1 : List Int) : Option (List Int × Int × Int):=if (l1.length : Int) = 0 then (some (l1,s0_1,s0_2)) else ((spec_l1Below.f s0_0 s0_1 s0_2 5).bind fun bt489=>(if bt489.1 = 0 then ((spec_l1Below.f s0_0 bt489.2.1 bt489.2.2 (l1.length : Int)).bind fun bt492=>((spec_l1Int.f s0_0 bt492.2.1 bt492.2.2 (([0,1,2,127,128,255] : List Int))).bind fun bt498=>(if 0 ≤ bt492.1 then (if bt492.1 < (l1.length : Int) then (some ((l1.set (bt492.1 : Int).toNat ((bt498.1) % 256)),bt498.2.1,bt498.2.2)) else (none)) else (none)))) else (if bt489.1 = 1 then (if l1.length < 140737488355328 then (some ((l1 ++ [3]),bt489.2.1,bt489.2.2)) else (none)) else (if bt489.1 = 2 then ((spec_l1Below.f s0_0 bt489.2.1 bt489.2.2 (l1.length : Int)).bind fun bt505=>(if 0 ≤ bt505.1 then (if bt505.1 ≤ (l1.length : Int) then (some ((l1.take (bt505.1 : Int).toNat),bt505.2.1,bt505.2.2)) else (none)) else (none))) else (some (l1,bt489.2.1,bt489.2.2))))))
set_option maxHeartbeats 8000000 in
set_option maxRecDepth 100000 in
theorem spec_l1Bend.calls (g : Nat) (s0_0 : List Int) (s0_1 : Int) (s0_2 : Int) (P1_ : Nat → Prop) (u9000_ : Value) (l1 : List Int) (r1 : List Int) (r2 : Int) (r3 : Int) (w0 w : World) (hI : J155 w0 w g s0_0 s0_1 s0_2) (hB : Below w0.heap.size w0 w) (ho1 : Kd.R (Kd.int .u8) 5 w w0.heap.size P1_ u9000_ l1) (h : spec_l1Bend.f s0_0 s0_1 s0_2 l1 = some (r1,r2,r3)) :
  Calls Try.prog 85 #[.pointer (some ⟨g,0,none⟩),u9000_] w fun e w'=>∃ v0_ : Value,e = .returned (v0_) ∧ Kd.R (Kd.int .u8) 5 w' w0.heap.size (fun k_=>(P1_ k_ ∨ w.heap.size ≤ k_)) v0_ r1 ∧ J155 w0 w' g s0_0 r2 r3 ∧ Below w0.heap.size w0 w' ∧ Kept w w' (fun k_=>(P1_ k_) ∨ k_ = g):=by
 have HO1:=aM_ (show Kd.R (Kd.int .u8) 5 w w0.heap.size (fun k_=>(P1_ k_ ∨ w.heap.size ≤ k_)) u9000_ l1 from Kd.R_mono ho1 (fun k_ hk=>(.inl hk)))
 have HI0:=aM_ hI
 have HL:=aM_ hB.size
 clear hI
 have HK:=aM_ (Kept.refl w (fun k_=>(P1_ k_) ∨ k_ = g))
 have HW0:=aM_ hB.size
 have HB:=aM_ hB
 clear hB
 have H : (if (l1.length : Int) = 0 then (some (l1,s0_1,s0_2)) else ((spec_l1Below.f s0_0 s0_1 s0_2 5).bind fun bt489=>(if bt489.1 = 0 then ((spec_l1Below.f s0_0 bt489.2.1 bt489.2.2 (l1.length : Int)).bind fun bt492=>((spec_l1Int.f s0_0 bt492.2.1 bt492.2.2 (([0,1,2,127,128,255] : List Int))).bind fun bt498=>(if 0 ≤ bt492.1 then (if bt492.1 < (l1.length : Int) then (some ((l1.set (bt492.1 : Int).toNat ((bt498.1) % 256)),bt498.2.1,bt498.2.2)) else (none)) else (none)))) else (if bt489.1 = 1 then (if l1.length < 140737488355328 then (some ((l1 ++ [3]),bt489.2.1,bt489.2.2)) else (none)) else (if bt489.1 = 2 then ((spec_l1Below.f s0_0 bt489.2.1 bt489.2.2 (l1.length : Int)).bind fun bt505=>(if 0 ≤ bt505.1 then (if bt505.1 ≤ (l1.length : Int) then (some ((l1.take (bt505.1 : Int).toNat),bt505.2.1,bt505.2.2)) else (none)) else (none))) else (some (l1,bt489.2.1,bt489.2.2))))))) = some (r1,r2,r3):=h
 clear h
 by_cases c3 : (l1.length : Int) = 0
 ·rw [if_pos c3] at H
  have c3b0 : ((l1.length : Int) == 0) = true:=beq_iff_eq.mpr c3
  have c3b1 : ((l1.length : Int) != 0) = false:=bne_eq_false_iff_eq.mpr c3
  clear c3
  simp only [Option.some.injEq,Prod.mk.injEq] at H
  obtain ⟨rfl,rfl,rfl⟩:=H
  obtain ⟨Ao4,co4,eo4⟩:=Kd.R_slice HO1.out
  subst eo4
  go_enter Try.func85,Try.ntmps85
  go_wp2
  go_ret
  exact ⟨_,by first | rfl | (simp [errW_none,errW_some] <;> rfl) | (simp [*, errW_none,errW_some] <;> rfl),by exact rZ_ HO1,by repeat first | exact J155.z HI0 | apply J155.set_1 | apply J155.set_2 | refine J155.y ?_,by have e0_:=aM_ (J155.ge HI0.out);exact bZ_ HB,by repeat (first | (with_reducible first | exact HK.out | apply Kept.alloc | apply Kept.drewN | apply Kept.drew | refine Kept.setCell ?_ (.inl (.inr rfl)) _) | exact HK.out)⟩
 ·rw [if_neg c3] at H
  have c3b0 : ((l1.length : Int) == 0) = false:=beq_eq_false_iff_ne.mpr c3
  have c3b1 : ((l1.length : Int) != 0) = true:=bne_iff_ne.mpr c3
  have c3b2 : ¬ (l1 = []):=fun h_=>c3 (by rw [h_];rfl)
  replace H:=oB_ H
  obtain ⟨⟨t489,t490,t491⟩,A50,H⟩:=H
  replace H : (if t489 = 0 then ((spec_l1Below.f s0_0 t490 t491 (l1.length : Int)).bind fun bt492=>((spec_l1Int.f s0_0 bt492.2.1 bt492.2.2 (([0,1,2,127,128,255] : List Int))).bind fun bt498=>(if 0 ≤ bt492.1 then (if bt492.1 < (l1.length : Int) then (some ((l1.set (bt492.1 : Int).toNat ((bt498.1) % 256)),bt498.2.1,bt498.2.2)) else (none)) else (none)))) else (if t489 = 1 then (if l1.length < 140737488355328 then (some ((l1 ++ [3]),t490,t491)) else (none)) else (if t489 = 2 then ((spec_l1Below.f s0_0 t490 t491 (l1.length : Int)).bind fun bt505=>(if 0 ≤ bt505.1 then (if bt505.1 ≤ (l1.length : Int) then (some ((l1.take (bt505.1 : Int).toNat),bt505.2.1,bt505.2.2)) else (none)) else (none))) else (some (l1,t490,t491))))) = some (r1,r2,r3):=H
  have A5:=aM_ A50
  clear A50
  by_cases c6 : t489 = 0
  ·rw [if_pos c6] at H
   have c6b0 : (t489 == 0) = true:=beq_iff_eq.mpr c6
   have c6b1 : (t489 != 0) = false:=bne_eq_false_iff_eq.mpr c6
   clear c6
   replace H:=oB_ H
   obtain ⟨⟨t492,t493,t494⟩,A70,H⟩:=H
   replace H : ((spec_l1Int.f s0_0 t493 t494 (([0,1,2,127,128,255] : List Int))).bind fun bt498=>(if 0 ≤ t492 then (if t492 < (l1.length : Int) then (some ((l1.set (t492 : Int).toNat ((bt498.1) % 256)),bt498.2.1,bt498.2.2)) else (none)) else (none))) = some (r1,r2,r3):=H
   have A7:=aM_ A70
   clear A70
   obtain ⟨y495,hy495⟩ : ∃ y_ : List Int,y_ = (([0,1,2,127,128,255] : List Int)):=⟨_,rfl⟩
   replace H : ((spec_l1Int.f s0_0 t493 t494 y495).bind fun bt498=>(if 0 ≤ t492 then (if t492 < (l1.length : Int) then (some ((l1.set (t492 : Int).toNat ((bt498.1) % 256)),bt498.2.1,bt498.2.2)) else (none)) else (none))) = some (r1,r2,r3):=by first | (rw [hy495];with_reducible exact H) | (have H2_:=(Option.bind_some _ _).symm.trans H;rw [hy495];with_reducible exact H2_) | (have H2_:=(Option.bind_some _ _).symm.trans H;with_reducible exact H2_) | with_reducible exact H | (rw [hy495];exact H) | exact H
   have Ny495:=aM_ hy495
   clear hy495
   replace H:=oB_ H
   obtain ⟨⟨t498,t499,t500⟩,A80,H⟩:=H
   replace H : (if 0 ≤ t492 then (if t492 < (l1.length : Int) then (some ((l1.set (t492 : Int).toNat ((t498) % 256)),t499,t500)) else (none)) else (none)) = some (r1,r2,r3):=H
   have A8:=aM_ A80
   clear A80
   by_cases c9 : 0 ≤ t492
   ·rw [if_pos c9] at H
    have c9b0 : decide (0 ≤ t492) = true:=decide_eq_true c9
    clear c9
    by_cases c10 : t492 < (l1.length : Int)
    ·rw [if_pos c10] at H
     have c10b0 : decide (t492 < (l1.length : Int)) = true:=decide_eq_true c10
     clear c10
     obtain ⟨y501,hy501⟩ : ∃ y_ : List Int,y_ = (l1.set (t492 : Int).toNat ((t498) % 256)):=⟨_,rfl⟩
     replace H : (some (y501,t499,t500)) = some (r1,r2,r3):=by first | (rw [hy501];with_reducible exact H) | (have H2_:=(Option.bind_some _ _).symm.trans H;rw [hy501];with_reducible exact H2_) | (have H2_:=(Option.bind_some _ _).symm.trans H;with_reducible exact H2_) | with_reducible exact H | (rw [hy501];exact H) | exact H
     have Ny501:=aM_ hy501
     clear hy501
     simp only [Option.some.injEq,Prod.mk.injEq] at H
     obtain ⟨rfl,rfl,rfl⟩:=H
     obtain ⟨Ao12,co12,eo12⟩:=Kd.R_slice HO1.out
     subst eo12
     go_enter Try.func85,Try.ntmps85
     go_wp2_with (first | ((with_reducible refine gate_callee (f:=125) rfl ?_);refine goesL_ (some 10) rfl rfl Try.func125 (by kernel_rfl) rfl #[.pointer (some ⟨g,0,none⟩),.int .i64 5] rfl (by (try simp only [mA_,mC_,mN_]);first | done | rfl | (simp only [lD_,lT_];rfl)) ?_;(with_reducible refine (spec_l1Below.calls g s0_0 s0_1 s0_2 5 t489 t490 t491 w0 _ ?side1 ?side2 A5.out).mono ?_);(case side1=>repeat first | exact J155.z HI0 | apply J155.set_1 | apply J155.set_2 | refine J155.y ?_);(case side2=>have e0_:=aM_ (J155.ge HI0.out);exact bZ_ HB);rintro e w13 ⟨rfl,hi,hb,hk⟩;refine ⟨_,rfl,?_⟩;have n0_:=aM_ (Kd.R_mono (Kd.R_keep (J155.apart (show J155 w0 _ g s0_0 s0_1 s0_2 from by repeat first | exact J155.z HI0 | apply J155.set_1 | apply J155.set_2 | refine J155.y ?_) (by exact rZ_ HO1) (by decide)) hk (fun _ h=>h.2)) (fun _ h=>h.1));have n1_:=aM_ (Kept.of_keep (S:=(fun k_=>(P1_ k_) ∨ k_ = g)) (by repeat (first | (with_reducible first | exact HK.out | apply Kept.alloc | apply Kept.drewN | apply Kept.drew | refine Kept.setCell ?_ (.inl (.inr rfl)) _) | exact HK.out)) hk (.inl (.inr rfl)));have n2_:=aM_ (hb);have n3_:=aM_ (hi);clear HO1;clear HK;clear HB;clear HI0;have HO1:=n0_;have HK:=n1_;have HB:=n2_;have HI0:=n3_;clear n0_ n1_ n2_ n3_;(try clear hb);(try clear hb2);(try clear hk);(try clear hi)) | ((with_reducible refine gate_callee (f:=125) rfl ?_);refine goesL_ (some 17) rfl rfl Try.func125 (by kernel_rfl) rfl #[.pointer (some ⟨g,0,none⟩),.int .i64 (l1.length : Int)] rfl (by (try simp only [mA_,mC_,mN_]);first | done | rfl | (simp only [lD_,lT_];rfl)) ?_;(with_reducible refine (spec_l1Below.calls g s0_0 t490 t491 (l1.length : Int) t492 t493 t494 w0 _ ?side1 ?side2 A7.out).mono ?_);(case side1=>repeat first | exact J155.z HI0 | apply J155.set_1 | apply J155.set_2 | refine J155.y ?_);(case side2=>have e0_:=aM_ (J155.ge HI0.out);exact bZ_ HB);rintro e w14 ⟨rfl,hi,hb,hk⟩;refine ⟨_,rfl,?_⟩;have n0_:=aM_ (Kd.R_mono (Kd.R_keep (J155.apart (show J155 w0 _ g s0_0 t490 t491 from by repeat first | exact J155.z HI0 | apply J155.set_1 | apply J155.set_2 | refine J155.y ?_) (by exact rZ_ HO1) (by decide)) hk (fun _ h=>h.2)) (fun _ h=>h.1));have n1_:=aM_ (Kept.of_keep (S:=(fun k_=>(P1_ k_) ∨ k_ = g)) (by repeat (first | (with_reducible first | exact HK.out | apply Kept.alloc | apply Kept.drewN | apply Kept.drew | refine Kept.setCell ?_ (.inl (.inr rfl)) _) | exact HK.out)) hk (.inl (.inr rfl)));have n2_:=aM_ (hb);have n3_:=aM_ (hi);clear HO1;clear HK;clear HB;clear HI0;have HO1:=n0_;have HK:=n1_;have HB:=n2_;have HI0:=n3_;clear n0_ n1_ n2_ n3_;(try clear hb);(try clear hb2);(try clear hk);(try clear hi)) | ((with_reducible refine gate_dst (N:=19) rfl ?_);refine Kd.R_lit (Kd.int .i64) _ 3 ?hg (N:=19) ?hd (xs:=([0,1,2,127,128,255] : List Int)) (inner:=[.int .i64 0,.int .i64 1,.int .i64 2,.int .i64 127,.int .i64 128,.int .i64 255]) (ok:=fun _=>True) (okp:=fun _=>True) ?hr ?hp (fun _ hk=>hk) trivial (Below.refl _ _) (Nat.le_refl _) (by simp) ?_;(case hd=>rfl);(case hg=>rfl);(case hr=>first | (go_simp;done) | (go_simp;rfl));(case hp=>exact (Reps.one (show Kd.M (Kd.int .i64) _ _ _ 0 [.int .i64 0] from rfl) (Reps.one (show Kd.M (Kd.int .i64) _ _ _ 1 [.int .i64 1] from rfl) (Reps.one (show Kd.M (Kd.int .i64) _ _ _ 2 [.int .i64 2] from rfl) (Reps.one (show Kd.M (Kd.int .i64) _ _ _ 127 [.int .i64 127] from rfl) (Reps.one (show Kd.M (Kd.int .i64) _ _ _ 128 [.int .i64 128] from rfl) (Reps.one (show Kd.M (Kd.int .i64) _ _ _ 255 [.int .i64 255] from rfl) (Reps.none _ _))))))));intro v496 w15 ho16 hb hg_ hnew_;clear hg_ hnew_;(first | rw [← Ny495.out] at ho16 | (simp only [Int.reduceToNat] at ho16;rw [← Ny495.out] at ho16));have n0_:=aM_ (Kd.R_below (by exact rZ_ HO1) hb);have n1_:=aM_ (Kd.R_lower (Kd.R_newM (M:=fun k_=>(P1_ k_ ∨ w.heap.size ≤ k_)) ho16 (by first | exact HK.out.1 | exact (show Kept w _ (fun k_=>(P1_ k_) ∨ k_ = g) from by repeat (first | (with_reducible first | exact HK.out | apply Kept.alloc | apply Kept.drewN | apply Kept.drew | refine Kept.setCell ?_ (.inl (.inr rfl)) _) | exact HK.out)).1) (fun k_ h_=>.inr h_)) (bS_ (by have e0_:=aM_ (J155.ge HI0.out);exact bZ_ HB)));have n2_:=aM_ (J155.below (by repeat first | exact J155.z HI0 | apply J155.set_1 | apply J155.set_2 | refine J155.y ?_) hb);have n3_:=aM_ (Kept.below (S:=(fun k_=>(P1_ k_) ∨ k_ = g)) (by repeat (first | (with_reducible first | exact HK.out | apply Kept.alloc | apply Kept.drewN | apply Kept.drew | refine Kept.setCell ?_ (.inl (.inr rfl)) _) | exact HK.out)) hb);have n4_:=aM_ (bT_ (by have e0_:=aM_ (J155.ge HI0.out);exact bZ_ HB) hb);clear HO1;clear HI0;clear HK;clear HB;have HO1:=n0_;have HO497:=n1_;have HI0:=n2_;have HK:=n3_;have HB:=n4_;clear n0_ n1_ n2_ n3_ n4_;clear hb ho16;obtain ⟨Ao17,co17,eo17⟩:=Kd.R_slice HO497.out;subst eo17) | ((with_reducible refine gate_callee (f:=145) rfl ?_);refine goesL_ (some 20) rfl rfl Try.func145 (by kernel_rfl) rfl #[.pointer (some ⟨g,0,none⟩),.slice Ao17 y495.length co17] rfl (by (try simp only [mA_,mC_,mN_]);first | done | rfl | (simp only [lD_,lT_];rfl)) ?_;(with_reducible refine (spec_l1Int.calls g s0_0 t493 t494 _ _ y495 t498 t499 t500 w0 _ ?side1 ?side2 ?side3 ?side4 ?side5 A8.out).mono ?_);(case side1=>repeat first | exact J155.z HI0 | apply J155.set_1 | apply J155.set_2 | refine J155.y ?_);(case side2=>have e0_:=aM_ (J155.ge HI0.out);exact bZ_ HB);(case side3=>repeat (first | exact (Kd.R_reads' HO497.out).2.2 | (with_reducible refine cA_ ?_ _) | (with_reducible refine cN_ ?_ _) | (with_reducible refine cD_ ?_)));(case side4=>exact (Kd.R_reads' HO497.out).2.1);(case side5=>exact far_slice (J155.own_ne HI0.out HO497.out (by decide)));rintro e w18 ⟨rfl,hi,hb,hk⟩;refine ⟨_,rfl,?_⟩;have n0_:=aM_ (Kd.R_mono (Kd.R_keep (J155.apart (show J155 w0 _ g s0_0 t493 t494 from by repeat first | exact J155.z HI0 | apply J155.set_1 | apply J155.set_2 | refine J155.y ?_) (by exact rZ_ HO1) (by decide)) hk (fun _ h=>h.2)) (fun _ h=>h.1));have n1_:=aM_ (Kd.R_mono (Kd.R_keep (J155.apart (show J155 w0 _ g s0_0 t493 t494 from by repeat first | exact J155.z HI0 | apply J155.set_1 | apply J155.set_2 | refine J155.y ?_) (by exact rZ_ HO497) (by decide)) hk (fun _ h=>h.2)) (fun _ h=>h.1));have n2_:=aM_ (Kept.of_keep (S:=(fun k_=>(P1_ k_) ∨ k_ = g)) (by repeat (first | (with_reducible first | exact HK.out | apply Kept.alloc | apply Kept.drewN | apply Kept.drew | refine Kept.setCell ?_ (.inl (.inr rfl)) _) | exact HK.out)) hk (.inl (.inr rfl)));have n3_:=aM_ (hb);have n4_:=aM_ (hi);clear HO1;clear HO497;clear HK;clear HB;clear HI0;have HO1:=n0_;have HO497:=n1_;have HK:=n2_;have HB:=n3_;have HI0:=n4_;clear n0_ n1_ n2_ n3_ n4_;(try clear hb);(try clear hb2);(try clear hk);(try clear hi);have p11 : 0 ≤ (t492 : Int):=oT_ (by first | (with_reducible assumption) | assumption);have q11 : (t492 : Int) < ((l1.length : Int) : Int):=oT_ (by first | (with_reducible assumption) | assumption);obtain ⟨go11,co11,eo11,gb11,gl11,cl11,HG11⟩:=Kd.R_form HO1.out (by omega);(first | cases eo11 | (injection eo11 with ea_ en_ ec_;(first | subst ea_ | (injection ea_ with ea_;subst ea_));subst ec_;clear en_));have GB11:=aM_ gb11;have GG11:=aM_ HG11;clear gb11 gl11 HG11;have HMgo11:=aM_ (show (P1_ go11 ∨ w.heap.size ≤ go11) from (HO1.out.1 _ rfl));obtain ⟨hx11_0,hf11_0⟩:=Kd.R_celln 0 HO1.out (t492 : Int) p11 q11;replace p11:=eq_true p11;replace q11:=eq_true q11;obtain ⟨hy19_,hz19_⟩:=Kd.R_celln 0 HO1.out (t492 : Int) (oT_ (by first | (with_reducible assumption) | assumption)) (oT_ (by first | (with_reducible assumption) | assumption));have HP19:=Kd.R_putg HO1.out (t492 : Int) ((t498) % 256)) | ((with_reducible refine gate_store (t:=5) (p:=22) rfl ?_);refine store_event (t:=5) (p:=22) (v:=?vo_w20) (w1:=(w18.setCell ⟨go11,(t492 : Int).toNat,none⟩ (.int .u8 ((t498) % 256)))) ?hg ?ho ?hn ?hr ?_;(case ho=>rfl);(case hg=>rfl);(case hn=>rfl);(case hr=>first | (go_simp;done) | (go_simp;rfl));intro w20 hw;have hg : w18.grownBy w20 (some go11):=(by rw [hw];exact HP19.2);have hp_ : Kd.R (Kd.int .u8) 5 w20 w0.heap.size (fun k_=>(P1_ k_ ∨ w.heap.size ≤ k_)) (.slice (some ⟨go11,0,none⟩) l1.length co12) y501:=(by rw [hw,Ny501.out];exact HP19.1);clear HP19;have n0_:=aM_ (J155.grown (by repeat first | exact J155.z HI0 | apply J155.set_1 | apply J155.set_2 | refine J155.y ?_) hg (J155.own_ne HI0.out HO1.out (by decide)));have n1_:=aM_ (hp_);have n2_:=aM_ (Kd.R_over' (v:=(.slice (some ⟨go11,0,none⟩) l1.length co12)) (by exact rZ_ HO497) (Kd.R_typed HO1.out) (by decide) hg);have n3_:=aM_ ((by rw [hw];exact bE_ (HB.out) GB11.out : Below w0.heap.size w0 w20));have n4_:=aM_ (Kept.of_grown (S:=(fun k_=>(P1_ k_) ∨ k_ = g)) hg (by repeat (first | (with_reducible first | exact HK.out | apply Kept.alloc | apply Kept.drewN | apply Kept.drew | refine Kept.setCell ?_ (.inl (.inr rfl)) _) | exact HK.out)) (fun k_ e_=>Or.imp_left Or.inl ((HO1.out.1 k_ e_))));clear HI0;clear HO1;clear HO497;clear HB;clear HK;have HI0:=n0_;have HO1:=n1_;have HO497:=n2_;have HB:=n3_;have HK:=n4_;clear n0_ n1_ n2_ n3_ n4_;clear hg hw hp_))
     go_ret
     exact ⟨_,by first | rfl | (simp [errW_none,errW_some] <;> rfl) | (simp [*, errW_none,errW_some] <;> rfl),by exact rZ_ HO1,by repeat first | exact J155.z HI0 | apply J155.set_1 | apply J155.set_2 | refine J155.y ?_,by have e0_:=aM_ (J155.ge HI0.out);exact bZ_ HB,by repeat (first | (with_reducible first | exact HK.out | apply Kept.alloc | apply Kept.drewN | apply Kept.drew | refine Kept.setCell ?_ (.inl (.inr rfl)) _) | exact HK.out)⟩
    ·rw [if_neg c10] at H
     exact absurd H (by simp)
   ·rw [if_neg c9] at H
    exact absurd H (by simp)
  ·rw [if_neg c6] at H
   have c6b0 : (t489 == 0) = false:=beq_eq_false_iff_ne.mpr c6
   have c6b1 : (t489 != 0) = true:=bne_iff_ne.mpr c6
   by_cases c21 : t489 = 1
   ·rw [if_pos c21] at H
    have c21b0 : (t489 == 1) = true:=beq_iff_eq.mpr c21
    have c21b1 : (t489 != 1) = false:=bne_eq_false_iff_eq.mpr c21
    clear c21
    by_cases c22 : l1.length < 140737488355328
    ·rw [if_pos c22] at H
     have LMc22:=aM_ c22
     clear c22
     obtain ⟨y502,hy502⟩ : ∃ y_ : List Int,y_ = (l1 ++ [3]):=⟨_,rfl⟩
     replace H : (some (y502,t490,t491)) = some (r1,r2,r3):=by first | (rw [hy502];with_reducible exact H) | (have H2_:=(Option.bind_some _ _).symm.trans H;rw [hy502];with_reducible exact H2_) | (have H2_:=(Option.bind_some _ _).symm.trans H;with_reducible exact H2_) | with_reducible exact H | (rw [hy502];exact H) | exact H
     have Ny502:=aM_ hy502
     clear hy502
     simp only [Option.some.injEq,Prod.mk.injEq] at H
     obtain ⟨rfl,rfl,rfl⟩:=H
     obtain ⟨Ao23,co23,eo23⟩:=Kd.R_slice HO1.out
     subst eo23
     go_enter Try.func85,Try.ntmps85
     go_wp2_with (first | ((with_reducible refine gate_callee (f:=125) rfl ?_);refine goesL_ (some 10) rfl rfl Try.func125 (by kernel_rfl) rfl #[.pointer (some ⟨g,0,none⟩),.int .i64 5] rfl (by (try simp only [mA_,mC_,mN_]);first | done | rfl | (simp only [lD_,lT_];rfl)) ?_;(with_reducible refine (spec_l1Below.calls g s0_0 s0_1 s0_2 5 t489 t490 t491 w0 _ ?side1 ?side2 A5.out).mono ?_);(case side1=>repeat first | exact J155.z HI0 | apply J155.set_1 | apply J155.set_2 | refine J155.y ?_);(case side2=>have e0_:=aM_ (J155.ge HI0.out);exact bZ_ HB);rintro e w24 ⟨rfl,hi,hb,hk⟩;refine ⟨_,rfl,?_⟩;have n0_:=aM_ (Kd.R_mono (Kd.R_keep (J155.apart (show J155 w0 _ g s0_0 s0_1 s0_2 from by repeat first | exact J155.z HI0 | apply J155.set_1 | apply J155.set_2 | refine J155.y ?_) (by exact rZ_ HO1) (by decide)) hk (fun _ h=>h.2)) (fun _ h=>h.1));have n1_:=aM_ (Kept.of_keep (S:=(fun k_=>(P1_ k_) ∨ k_ = g)) (by repeat (first | (with_reducible first | exact HK.out | apply Kept.alloc | apply Kept.drewN | apply Kept.drew | refine Kept.setCell ?_ (.inl (.inr rfl)) _) | exact HK.out)) hk (.inl (.inr rfl)));have n2_:=aM_ (hb);have n3_:=aM_ (hi);clear HO1;clear HK;clear HB;clear HI0;have HO1:=n0_;have HK:=n1_;have HB:=n2_;have HI0:=n3_;clear n0_ n1_ n2_ n3_;(try clear hb);(try clear hb2);(try clear hk);(try clear hi)) | ((with_reducible refine gate_builtin (b:=.append) (xs:=#[.tmp 25,.tmp 26]) rfl ?_);at_builtin;refine Kd.R_append (Kd.int .u8) (w0:=w0) w0.heap.size rfl (.tmp 25) (.tmp 26) 27 5 (.int .u8 0) 1 rfl Try.underlying27 info5 rfl (by decide) (by omega) (.slice Ao23 l1.length co23) l1 3 [.int .u8 3] (fun k_=>(P1_ k_ ∨ w.heap.size ≤ k_)) (fun _=>False) rfl rfl ?aP (fun _ hk=>hk.elim) ?aF ?aO ?aB ?aS ?aL ?_;(case aP=>exact rfl);(case aB=>exact (by have e0_:=aM_ (J155.ge HI0.out);exact bZ_ HB));(case aF=>exact (fun k_ hk=>(.inr (Nat.le_trans (by first | exact HK.out.1 | exact (show Kept w _ (fun k_=>(P1_ k_) ∨ k_ = g) from by repeat (first | (with_reducible first | exact HK.out | apply Kept.alloc | apply Kept.drewN | apply Kept.drew | refine Kept.setCell ?_ (.inl (.inr rfl)) _) | exact HK.out)).1) hk))));(case aO=>exact (by exact rZ_ HO1));(case aS=>exact (bS_ (by have e0_:=aM_ (J155.ge HI0.out);exact bZ_ HB)));(case aL=>have:=LMc22.out;omega);intro v503 w25 ho hb hg hat;rw [← Ny502.out] at ho;have n0_:=aM_ (J155.grown (by repeat first | exact J155.z HI0 | apply J155.set_1 | apply J155.set_2 | refine J155.y ?_) hg (J155.own_ne HI0.out HO1.out (by decide)));have n1_:=aM_ (hb);have n2_:=aM_ (Kept.of_grown (S:=(fun k_=>(P1_ k_) ∨ k_ = g)) hg (by repeat (first | (with_reducible first | exact HK.out | apply Kept.alloc | apply Kept.drewN | apply Kept.drew | refine Kept.setCell ?_ (.inl (.inr rfl)) _) | exact HK.out)) (fun k_ e_=>Or.imp_left Or.inl ((HO1.out.1 k_ e_))));have n3_:=aM_ (ho);clear HI0;clear HB;clear HK;clear HO1;have HI0:=n0_;have HB:=n1_;have HK:=n2_;have HO504:=n3_;clear n0_ n1_ n2_ n3_;clear ho hb hg hat))
     go_ret
     exact ⟨_,by first | rfl | (simp [errW_none,errW_some] <;> rfl) | (simp [*, errW_none,errW_some] <;> rfl),by exact rZ_ HO504,by repeat first | exact J155.z HI0 | apply J155.set_1 | apply J155.set_2 | refine J155.y ?_,by have e0_:=aM_ (J155.ge HI0.out);exact bZ_ HB,by repeat (first | (with_reducible first | exact HK.out | apply Kept.alloc | apply Kept.drewN | apply Kept.drew | refine Kept.setCell ?_ (.inl (.inr rfl)) _) | exact HK.out)⟩
    ·rw [if_neg c22] at H
     exact absurd H (by simp)
   ·rw [if_neg c21] at H
    have c21b0 : (t489 == 1) = false:=beq_eq_false_iff_ne.mpr c21
    have c21b1 : (t489 != 1) = true:=bne_iff_ne.mpr c21
    by_cases c26 : t489 = 2
    ·rw [if_pos c26] at H
     have c26b0 : (t489 == 2) = true:=beq_iff_eq.mpr c26
     have c26b1 : (t489 != 2) = false:=bne_eq_false_iff_eq.mpr c26
     clear c26
     replace H:=oB_ H
     obtain ⟨⟨t505,t506,t507⟩,A270,H⟩:=H
     replace H : (if 0 ≤ t505 then (if t505 ≤ (l1.length : Int) then (some ((l1.take (t505 : Int).toNat),t506,t507)) else (none)) else (none)) = some (r1,r2,r3):=H
     have A27:=aM_ A270
     clear A270
     by_cases c28 : 0 ≤ t505
     ·rw [if_pos c28] at H
      have c28b0:=eq_true c28
      have c28b1 : decide (0 ≤ t505) = true:=decide_eq_true c28
      clear c28
      by_cases c29 : t505 ≤ (l1.length : Int)
      ·rw [if_pos c29] at H
       have c29b0:=eq_true c29
       have c29b1 : decide (t505 ≤ (l1.length : Int)) = true:=decide_eq_true c29
       clear c29
       obtain ⟨y508,hy508⟩ : ∃ y_ : List Int,y_ = (l1.take (t505 : Int).toNat):=⟨_,rfl⟩
       replace H : (some (y508,t506,t507)) = some (r1,r2,r3):=by first | (rw [hy508];with_reducible exact H) | (have H2_:=(Option.bind_some _ _).symm.trans H;rw [hy508];with_reducible exact H2_) | (have H2_:=(Option.bind_some _ _).symm.trans H;with_reducible exact H2_) | with_reducible exact H | (rw [hy508];exact H) | exact H
       have Ny508:=aM_ hy508
       clear hy508
       simp only [Option.some.injEq,Prod.mk.injEq] at H
       obtain ⟨rfl,rfl,rfl⟩:=H
       obtain ⟨Ao30,co30,eo30⟩:=Kd.R_slice HO1.out
       subst eo30
       go_enter Try.func85,Try.ntmps85
       go_wp2_with (first | ((with_reducible refine gate_callee (f:=125) rfl ?_);refine goesL_ (some 10) rfl rfl Try.func125 (by kernel_rfl) rfl #[.pointer (some ⟨g,0,none⟩),.int .i64 5] rfl (by (try simp only [mA_,mC_,mN_]);first | done | rfl | (simp only [lD_,lT_];rfl)) ?_;(with_reducible refine (spec_l1Below.calls g s0_0 s0_1 s0_2 5 t489 t490 t491 w0 _ ?side1 ?side2 A5.out).mono ?_);(case side1=>repeat first | exact J155.z HI0 | apply J155.set_1 | apply J155.set_2 | refine J155.y ?_);(case side2=>have e0_:=aM_ (J155.ge HI0.out);exact bZ_ HB);rintro e w31 ⟨rfl,hi,hb,hk⟩;refine ⟨_,rfl,?_⟩;have n0_:=aM_ (Kd.R_mono (Kd.R_keep (J155.apart (show J155 w0 _ g s0_0 s0_1 s0_2 from by repeat first | exact J155.z HI0 | apply J155.set_1 | apply J155.set_2 | refine J155.y ?_) (by exact rZ_ HO1) (by decide)) hk (fun _ h=>h.2)) (fun _ h=>h.1));have n1_:=aM_ (Kept.of_keep (S:=(fun k_=>(P1_ k_) ∨ k_ = g)) (by repeat (first | (with_reducible first | exact HK.out | apply Kept.alloc | apply Kept.drewN | apply Kept.drew | refine Kept.setCell ?_ (.inl (.inr rfl)) _) | exact HK.out)) hk (.inl (.inr rfl)));have n2_:=aM_ (hb);have n3_:=aM_ (hi);clear HO1;clear HK;clear HB;clear HI0;have HO1:=n0_;have HK:=n1_;have HB:=n2_;have HI0:=n3_;clear n0_ n1_ n2_ n3_;(try clear hb);(try clear hb2);(try clear hk);(try clear hi)) | ((with_reducible refine gate_callee (f:=125) rfl ?_);refine goesL_ (some 34) rfl rfl Try.func125 (by kernel_rfl) rfl #[.pointer (some ⟨g,0,none⟩),.int .i64 (l1.length : Int)] rfl (by (try simp only [mA_,mC_,mN_]);first | done | rfl | (simp only [lD_,lT_];rfl)) ?_;(with_reducible refine (spec_l1Below.calls g s0_0 t490 t491 (l1.length : Int) t505 t506 t507 w0 _ ?side1 ?side2 A27.out).mono ?_);(case side1=>repeat first | exact J155.z HI0 | apply J155.set_1 | apply J155.set_2 | refine J155.y ?_);(case side2=>have e0_:=aM_ (J155.ge HI0.out);exact bZ_ HB);rintro e w32 ⟨rfl,hi,hb,hk⟩;refine ⟨_,rfl,?_⟩;have n0_:=aM_ (Kd.R_mono (Kd.R_keep (J155.apart (show J155 w0 _ g s0_0 t490 t491 from by repeat first | exact J155.z HI0 | apply J155.set_1 | apply J155.set_2 | refine J155.y ?_) (by exact rZ_ HO1) (by decide)) hk (fun _ h=>h.2)) (fun _ h=>h.1));have n1_:=aM_ (Kept.of_keep (S:=(fun k_=>(P1_ k_) ∨ k_ = g)) (by repeat (first | (with_reducible first | exact HK.out | apply Kept.alloc | apply Kept.drewN | apply Kept.drew | refine Kept.setCell ?_ (.inl (.inr rfl)) _) | exact HK.out)) hk (.inl (.inr rfl)));have n2_:=aM_ (hb);have n3_:=aM_ (hi);clear HO1;clear HK;clear HB;clear HI0;have HO1:=n0_;have HK:=n1_;have HB:=n2_;have HI0:=n3_;clear n0_ n1_ n2_ n3_;(try clear hb);(try clear hb2);(try clear hk);(try clear hi);have q33 : (t505 : Int) ≤ ((l1.length : Int) : Int):=oT_ (by first | (with_reducible assumption) | assumption);obtain ⟨i033,hi033,_,hsz33,_⟩:=info_parts info5;have hcut33:=cut_to (P:=Try.prog) 27 5 .i64 Try.underlying27 hi033 Ao30 l1.length co30 t505 (oT_ (by first | (with_reducible assumption) | assumption)) q33 (Kd.R_reads' HO1.out).2.1;have hr33:=Kd.R_take (m:=(t505 : Int).toNat) HO1.out (by omega);have hy33 : y508.length = (t505 : Int).toNat:=(by rw [Ny508.out,lT_];omega);rw [← Ny508.out] at hr33;rw [← hy33] at hr33 hcut33;clear hy33 hi033 hsz33 HO1;have HO510:=aM_ hr33;clear hr33;replace q33:=eq_true q33))
       go_ret
       exact ⟨_,by first | rfl | (simp [errW_none,errW_some] <;> rfl) | (simp [*, errW_none,errW_some] <;> rfl),by exact rZ_ HO510,by repeat first | exact J155.z HI0 | apply J155.set_1 | apply J155.set_2 | refine J155.y ?_,by have e0_:=aM_ (J155.ge HI0.out);exact bZ_ HB,by repeat (first | (with_reducible first | exact HK.out | apply Kept.alloc | apply Kept.drewN | apply Kept.drew | refine Kept.setCell ?_ (.inl (.inr rfl)) _) | exact HK.out)⟩
      ·rw [if_neg c29] at H
       exact absurd H (by simp)
     ·rw [if_neg c28] at H
      exact absurd H (by simp)
    ·rw [if_neg c26] at H
     have c26b0 : (t489 == 2) = false:=beq_eq_false_iff_ne.mpr c26
     have c26b1 : (t489 != 2) = true:=bne_iff_ne.mpr c26
     simp only [Option.some.injEq,Prod.mk.injEq] at H
     obtain ⟨rfl,rfl,rfl⟩:=H
     obtain ⟨Ao34,co34,eo34⟩:=Kd.R_slice HO1.out
     subst eo34
     go_enter Try.func85,Try.ntmps85
     go_wp2_with (first | ((with_reducible refine gate_callee (f:=125) rfl ?_);refine goesL_ (some 10) rfl rfl Try.func125 (by kernel_rfl) rfl #[.pointer (some ⟨g,0,none⟩),.int .i64 5] rfl (by (try simp only [mA_,mC_,mN_]);first | done | rfl | (simp only [lD_,lT_];rfl)) ?_;(with_reducible refine (spec_l1Below.calls g s0_0 s0_1 s0_2 5 t489 t490 t491 w0 _ ?side1 ?side2 A5.out).mono ?_);(case side1=>repeat first | exact J155.z HI0 | apply J155.set_1 | apply J155.set_2 | refine J155.y ?_);(case side2=>have e0_:=aM_ (J155.ge HI0.out);exact bZ_ HB);rintro e w35 ⟨rfl,hi,hb,hk⟩;refine ⟨_,rfl,?_⟩;have n0_:=aM_ (Kd.R_mono (Kd.R_keep (J155.apart (show J155 w0 _ g s0_0 s0_1 s0_2 from by repeat first | exact J155.z HI0 | apply J155.set_1 | apply J155.set_2 | refine J155.y ?_) (by exact rZ_ HO1) (by decide)) hk (fun _ h=>h.2)) (fun _ h=>h.1));have n1_:=aM_ (Kept.of_keep (S:=(fun k_=>(P1_ k_) ∨ k_ = g)) (by repeat (first | (with_reducible first | exact HK.out | apply Kept.alloc | apply Kept.drewN | apply Kept.drew | refine Kept.setCell ?_ (.inl (.inr rfl)) _) | exact HK.out)) hk (.inl (.inr rfl)));have n2_:=aM_ (hb);have n3_:=aM_ (hi);clear HO1;clear HK;clear HB;clear HI0;have HO1:=n0_;have HK:=n1_;have HB:=n2_;have HI0:=n3_;clear n0_ n1_ n2_ n3_;(try clear hb);(try clear hb2);(try clear hk);(try clear hi)))
     go_ret
     exact ⟨_,by first | rfl | (simp [errW_none,errW_some] <;> rfl) | (simp [*, errW_none,errW_some] <;> rfl),by exact rZ_ HO1,by repeat first | exact J155.z HI0 | apply J155.set_1 | apply J155.set_2 | refine J155.y ?_,by have e0_:=aM_ (J155.ge HI0.out);exact bZ_ HB,by repeat (first | (with_reducible first | exact HK.out | apply Kept.alloc | apply Kept.drewN | apply Kept.drew | refine Kept.setCell ?_ (.inl (.inr rfl)) _) | exact HK.out)⟩
def spec_l1Once.f (s0_0 : List Int) (s0_1 : Int) (s0_2 : Int) (a1 : Int) : Option (Bool × Int × Int):=(spec_l1Below.f s0_0 s0_1 s0_2 a1).bind fun bt511=>(some ((bt511.1 == 0),bt511.2.1,bt511.2.2))
set_option maxHeartbeats 8000000 in
set_option maxRecDepth 100000 in
theorem spec_l1Once.calls (g : Nat) (s0_0 : List Int) (s0_1 : Int) (s0_2 : Int) (a1 : Int) (r1 : Bool) (r2 : Int) (r3 : Int) (w0 w : World) (hI : J155 w0 w g s0_0 s0_1 s0_2) (hB : Below w0.heap.size w0 w) (h : spec_l1Once.f s0_0 s0_1 s0_2 a1 = some (r1,r2,r3)) :
  Calls Try.prog 107 #[.pointer (some ⟨g,0,none⟩),.int .i64 a1] w fun e w'=>e = .returned (.bool r1) ∧ J155 w0 w' g s0_0 r2 r3 ∧ Below w0.heap.size w0 w' ∧ KeepBut w w' g none:=by
 have HI0:=aM_ hI
 have HK:=aM_ (KeepBut.refl w g none)
 have HL:=aM_ hB.size
 clear hI
 have HW0:=aM_ hB.size
 have HB:=aM_ hB
 clear hB
 have H : ((spec_l1Below.f s0_0 s0_1 s0_2 a1).bind fun bt511=>(some ((bt511.1 == 0),bt511.2.1,bt511.2.2))) = some (r1,r2,r3):=h
 clear h
 replace H:=oB_ H
 obtain ⟨⟨t511,t512,t513⟩,A30,H⟩:=H
 replace H : (some ((t511 == 0),t512,t513)) = some (r1,r2,r3):=H
 have A3:=aM_ A30
 clear A30
 simp only [Option.some.injEq,Prod.mk.injEq] at H
 obtain ⟨rfl,rfl,rfl⟩:=H
 go_enter Try.func107,Try.ntmps107
 go_wp2_with (first | ((with_reducible refine gate_callee (f:=125) rfl ?_);refine goesL_ (some 7) rfl rfl Try.func125 (by kernel_rfl) rfl #[.pointer (some ⟨g,0,none⟩),.int .i64 a1] rfl (by (try simp only [mA_,mC_,mN_]);first | done | rfl | (simp only [lD_,lT_];rfl)) ?_;(with_reducible refine (spec_l1Below.calls g s0_0 s0_1 s0_2 a1 t511 t512 t513 w0 _ ?side1 ?side2 A3.out).mono ?_);(case side1=>repeat first | exact J155.z HI0 | apply J155.set_1 | apply J155.set_2 | refine J155.y ?_);(case side2=>have e0_:=aM_ (J155.ge HI0.out);exact bZ_ HB);rintro e w4 ⟨rfl,hi,hb,hk⟩;refine ⟨_,rfl,?_⟩;have n0_:=aM_ (KeepBut.trans (by exact eZ_ HK) hk (.inl rfl));have n1_:=aM_ (hb);have n2_:=aM_ (hi);clear HK;clear HB;clear HI0;have HK:=n0_;have HB:=n1_;have HI0:=n2_;clear n0_ n1_ n2_;(try clear hb);(try clear hb2);(try clear hk);(try clear hi)))
 go_ret
 exact ⟨by first | rfl | (simp [errW_none,errW_some] <;> rfl) | (simp [*, errW_none,errW_some] <;> rfl),by repeat first | exact J155.z HI0 | apply J155.set_1 | apply J155.set_2 | refine J155.y ?_,by have e0_:=aM_ (J155.ge HI0.out);exact bZ_ HB,by exact eZ_ HK⟩
def spec_l5Draw.f (s0_0 : List Int) (s0_1 : Int) (s0_2 : Int) (a1 : Int) : Option (Int × Int × Bool × Bool × Int × Int):=(spec_l1Below.f s0_0 s0_1 s0_2 4).bind fun bt515=>((spec_l1Once.f s0_0 bt515.2.1 bt515.2.2 2).bind fun bt518=>((spec_l1Once.f s0_0 bt518.2.1 bt518.2.2 2).bind fun bt521=>(some (a1,wrap64 (1 + bt515.1),bt518.1,bt521.1,bt521.2.1,bt521.2.2))))
set_option maxHeartbeats 8000000 in
set_option maxRecDepth 100000 in
theorem spec_l5Draw.calls (g : Nat) (s0_0 : List Int) (s0_1 : Int) (s0_2 : Int) (a1 : Int) (r1 : Int) (r2 : Int) (r3 : Bool) (r4 : Bool) (r5 : Int) (r6 : Int) (w0 w : World) (hI : J155 w0 w g s0_0 s0_1 s0_2) (hB : Below w0.heap.size w0 w) (h : spec_l5Draw.f s0_0 s0_1 s0_2 a1 = some (r1,r2,r3,r4,r5,r6)) :
  Calls Try.prog 155 #[.pointer (some ⟨g,0,none⟩),.int .i64 a1] w fun e w'=>e = .returned (.agg #[.int .i64 r1,.int .i64 r2,.bool r3,.bool r4]) ∧ J155 w0 w' g s0_0 r5 r6 ∧ Below w0.heap.size w0 w' ∧ KeepBut w w' g none:=by
 have hu119:=Try.underlying119
 have HI0:=aM_ hI
 have HK:=aM_ (KeepBut.refl w g none)
 have HL:=aM_ hB.size
 clear hI
 have HW0:=aM_ hB.size
 have HB:=aM_ hB
 clear hB
 have H : ((spec_l1Below.f s0_0 s0_1 s0_2 4).bind fun bt515=>((spec_l1Once.f s0_0 bt515.2.1 bt515.2.2 2).bind fun bt518=>((spec_l1Once.f s0_0 bt518.2.1 bt518.2.2 2).bind fun bt521=>(some (a1,wrap64 (1 + bt515.1),bt518.1,bt521.1,bt521.2.1,bt521.2.2))))) = some (r1,r2,r3,r4,r5,r6):=h
 clear h
 replace H:=oB_ H
 obtain ⟨⟨t515,t516,t517⟩,A30,H⟩:=H
 replace H : ((spec_l1Once.f s0_0 t516 t517 2).bind fun bt518=>((spec_l1Once.f s0_0 bt518.2.1 bt518.2.2 2).bind fun bt521=>(some (a1,wrap64 (1 + t515),bt518.1,bt521.1,bt521.2.1,bt521.2.2)))) = some (r1,r2,r3,r4,r5,r6):=H
 have A3:=aM_ A30
 clear A30
 replace H:=oB_ H
 obtain ⟨⟨t518,t519,t520⟩,A40,H⟩:=H
 replace H : ((spec_l1Once.f s0_0 t519 t520 2).bind fun bt521=>(some (a1,wrap64 (1 + t515),t518,bt521.1,bt521.2.1,bt521.2.2))) = some (r1,r2,r3,r4,r5,r6):=H
 have A4:=aM_ A40
 clear A40
 replace H:=oB_ H
 obtain ⟨⟨t521,t522,t523⟩,A50,H⟩:=H
 replace H : (some (a1,wrap64 (1 + t515),t518,t521,t522,t523)) = some (r1,r2,r3,r4,r5,r6):=H
 have A5:=aM_ A50
 clear A50
 simp only [Option.some.injEq,Prod.mk.injEq] at H
 obtain ⟨rfl,rfl,rfl,rfl,rfl,rfl⟩:=H
 go_enter Try.func155,Try.ntmps155
 go_wp2_with (first | ((with_reducible refine gate_dst (N:=4) rfl ?_);refine box_event ?hg (N:=4) ?hd (cs:=#[.int .i64 0,.int .i64 0,.bool false,.bool false]) (t:=119) ?hr ?_;(case hd=>rfl);(case hg=>rfl);(case hr=>first | (go_simp;done) | (go_simp;rfl));intro gb514 hg w6 hbox hb;have n0_:=aM_ (J155.below (by repeat first | exact J155.z HI0 | apply J155.set_1 | apply J155.set_2 | refine J155.y ?_) hb);have n1_:=aM_ (KeepBut.trans (by exact eZ_ HK) (KeepBut.of_below hb g none) (.inl rfl));have n2_:=aM_ (bT_ (by have e0_:=aM_ (J155.ge HI0.out);exact bZ_ HB) hb);have n3_:=aM_ (hbox);have n4_:=aM_ ((by rw [hg];exact (keep_size (w:=w) (g:=g) (row:=none) (by exact eZ_ HK)) : w.heap.size ≤ gb514));have n5_:=aM_ ((Nat.le_trans HW0.out (by rw [hg];exact (keep_size (w:=w) (g:=g) (row:=none) (by exact eZ_ HK)) : w.heap.size ≤ gb514) : w0.heap.size ≤ gb514));have n6_:=aM_ ((by rw [hg];exact nN_ (J155.lt (show J155 w0 _ g s0_0 s0_1 s0_2 from by repeat first | exact J155.z HI0 | apply J155.set_1 | apply J155.set_2 | refine J155.y ?_)) : g ≠ gb514));have n7_:=aM_ ((by rw [hg];exact Nat.ne_of_gt (J155.lt (show J155 w0 _ g s0_0 s0_1 s0_2 from by repeat first | exact J155.z HI0 | apply J155.set_1 | apply J155.set_2 | refine J155.y ?_)) : gb514 ≠ g));clear HI0;clear HK;clear HB;have HI0:=n0_;have HK:=n1_;have HB:=n2_;have BK514:=n3_;have GW514:=n4_;have GE514:=n5_;have NB0_514:=n6_;have NB514_0:=n7_;clear n0_ n1_ n2_ n3_ n4_ n5_ n6_ n7_;clear hb hbox hg) | ((with_reducible refine gate_callee (f:=125) rfl ?_);refine goesL_ (some 7) rfl rfl Try.func125 (by kernel_rfl) rfl #[.pointer (some ⟨g,0,none⟩),.int .i64 4] rfl (by (try simp only [mA_,mC_,mN_]);first | done | rfl | (simp only [lD_,lT_];rfl)) ?_;(with_reducible refine (spec_l1Below.calls g s0_0 s0_1 s0_2 4 t515 t516 t517 w0 _ ?side1 ?side2 A3.out).mono ?_);(case side1=>repeat first | exact J155.z HI0 | apply J155.set_1 | apply J155.set_2 | refine J155.y ?_);(case side2=>have e0_:=aM_ (J155.ge HI0.out);exact bZ_ HB);rintro e w7 ⟨rfl,hi,hb,hk⟩;refine ⟨_,rfl,?_⟩;have n0_:=aM_ (KeepBut.blk hk (g':=gb514) (o:=.cells #[.int .i64 0,.int .i64 0,.bool false,.bool false] 119 (0,0)) (by exact kZ_ BK514) NB514_0.out (by simp));have n1_:=aM_ (KeepBut.trans (by exact eZ_ HK) hk (.inl rfl));have n2_:=aM_ (hb);have n3_:=aM_ (hi);clear BK514;clear HK;clear HB;clear HI0;have BK514:=n0_;have HK:=n1_;have HB:=n2_;have HI0:=n3_;clear n0_ n1_ n2_ n3_;(try clear hb);(try clear hb2);(try clear hk);(try clear hi)) | ((with_reducible refine gate_callee (f:=107) rfl ?_);refine goesL_ (some 10) rfl rfl Try.func107 (by kernel_rfl) rfl #[.pointer (some ⟨g,0,none⟩),.int .i64 2] rfl (by (try simp only [mA_,mC_,mN_]);first | done | rfl | (simp only [lD_,lT_];rfl)) ?_;(with_reducible refine (spec_l1Once.calls g s0_0 t516 t517 2 t518 t519 t520 w0 _ ?side1 ?side2 A4.out).mono ?_);(case side1=>repeat first | exact J155.z HI0 | apply J155.set_1 | apply J155.set_2 | refine J155.y ?_);(case side2=>have e0_:=aM_ (J155.ge HI0.out);exact bZ_ HB);rintro e w8 ⟨rfl,hi,hb,hk⟩;refine ⟨_,rfl,?_⟩;have n0_:=aM_ (KeepBut.blk hk (g':=gb514) (o:=.cells #[.int .i64 0,.int .i64 0,.bool false,.bool false] 119 (0,0)) (by exact kZ_ BK514) NB514_0.out (by simp));have n1_:=aM_ (KeepBut.trans (by exact eZ_ HK) hk (.inl rfl));have n2_:=aM_ (hb);have n3_:=aM_ (hi);clear BK514;clear HK;clear HB;clear HI0;have BK514:=n0_;have HK:=n1_;have HB:=n2_;have HI0:=n3_;clear n0_ n1_ n2_ n3_;(try clear hb);(try clear hb2);(try clear hk);(try clear hi)) | ((with_reducible refine gate_callee (f:=107) rfl ?_);refine goesL_ (some 12) rfl rfl Try.func107 (by kernel_rfl) rfl #[.pointer (some ⟨g,0,none⟩),.int .i64 2] rfl (by (try simp only [mA_,mC_,mN_]);first | done | rfl | (simp only [lD_,lT_];rfl)) ?_;(with_reducible refine (spec_l1Once.calls g s0_0 t519 t520 2 t521 t522 t523 w0 _ ?side1 ?side2 A5.out).mono ?_);(case side1=>repeat first | exact J155.z HI0 | apply J155.set_1 | apply J155.set_2 | refine J155.y ?_);(case side2=>have e0_:=aM_ (J155.ge HI0.out);exact bZ_ HB);rintro e w9 ⟨rfl,hi,hb,hk⟩;refine ⟨_,rfl,?_⟩;have n0_:=aM_ (KeepBut.blk hk (g':=gb514) (o:=.cells #[.int .i64 0,.int .i64 0,.bool false,.bool false] 119 (0,0)) (by exact kZ_ BK514) NB514_0.out (by simp));have n1_:=aM_ (KeepBut.trans (by exact eZ_ HK) hk (.inl rfl));have n2_:=aM_ (hb);have n3_:=aM_ (hi);clear BK514;clear HK;clear HB;clear HI0;have BK514:=n0_;have HK:=n1_;have HB:=n2_;have HI0:=n3_;clear n0_ n1_ n2_ n3_;(try clear hb);(try clear hb2);(try clear hk);(try clear hi);have hnb10:=NB514_0.out;have hnc10:=NB0_514.out;have hcz11_0 : w9.cell? ⟨gb514,0,none⟩ = some (.int .i64 0):=(kC_ BK514.out 0).trans rfl;have hcz11_1 : w9.cell? ⟨gb514,1,none⟩ = some (.int .i64 0):=(kC_ BK514.out 1).trans rfl;have hcz11_2 : w9.cell? ⟨gb514,2,none⟩ = some (.bool false):=(kC_ BK514.out 2).trans rfl;have hcz11_3 : w9.cell? ⟨gb514,3,none⟩ = some (.bool false):=(kC_ BK514.out 3).trans rfl;have hfz11_0:=kF_ BK514.out 0;have hfz11_1:=kF_ BK514.out 1;have hfz11_2:=kF_ BK514.out 2;have hfz11_3:=kF_ BK514.out 3))
 refine bodyPost_ret (results_cell_row rfl _ _ gb514 119 #[.int .i64 a1,.int .i64 (wrap64 (1 + t515)),.bool t518,.bool t521] (0,0) _ rfl (by (with_reducible repeat (first | refine kN_ ?_ _ | refine kD_ ?_ | refine kA_ ?_ _));refine kP_ (cs:=#[.int .i64 a1,.int .i64 (wrap64 (1 + t515)),.bool t518,.bool false]) ?_ 3 _ rfl;(with_reducible repeat (first | refine kN_ ?_ _ | refine kD_ ?_ | refine kA_ ?_ _));refine kP_ (cs:=#[.int .i64 a1,.int .i64 (wrap64 (1 + t515)),.bool false,.bool false]) ?_ 2 _ rfl;(with_reducible repeat (first | refine kN_ ?_ _ | refine kD_ ?_ | refine kA_ ?_ _));refine kP_ (cs:=#[.int .i64 a1,.int .i64 0,.bool false,.bool false]) ?_ 1 _ rfl;(with_reducible repeat (first | refine kN_ ?_ _ | refine kD_ ?_ | refine kA_ ?_ _));refine kP_ (cs:=#[.int .i64 0,.int .i64 0,.bool false,.bool false]) ?_ 0 _ rfl;exact kZ_ BK514) Try.underlying119 rfl (by kernel_rfl)) rfl ?_
 exact ⟨by first | rfl | (simp [errW_none,errW_some] <;> rfl) | (simp [*, errW_none,errW_some] <;> rfl),by repeat first | exact J155.z HI0 | apply J155.set_1 | apply J155.set_2 | refine J155.y ?_,by have e0_:=aM_ (J155.ge HI0.out);exact bZ_ HB,by exact eZ_ HK⟩
def spec_l6Plan.l0 : Nat → List (S119) → Int → List Int → Int → Int → Option ((List (S119)) × Int × Int)
 | 0,_,_,_,_,_=>none
 | k + 1,x3,x4,x1000,x1001,x1002=>if x4 > 0 then ((spec_l1Below.f x1000 x1001 x1002 4).bind fun bt530=>((spec_l5Draw.f x1000 bt530.2.1 bt530.2.2 bt530.1).bind fun bt533=>(if x3.length < 5864062014805 then (spec_l6Plan.l0 k (x3 ++ [(⟨bt533.1,bt533.2.1,bt533.2.2.1,bt533.2.2.2.1⟩ : S119)]) (wrap64 (x4 - 1)) x1000 bt533.2.2.2.2.1 bt533.2.2.2.2.2) else (none)))) else (some (x3,x1001,x1002))
def spec_l6Plan.f (k : Nat) (s0_0 : List Int) (s0_1 : Int) (s0_2 : Int) : Option ((List (S119)) × Int × Int):=(spec_l1Below.f s0_0 s0_1 s0_2 3).bind fun bt527=>(spec_l6Plan.l0 k (([] : List (S119))) (wrap64 (1 + bt527.1)) s0_0 bt527.2.1 bt527.2.2)
theorem spec_l6Plan.mono_l : ∀ k,(∀ y0 y1 y2 y3 y4,LeO (spec_l6Plan.l0 k y0 y1 y2 y3 y4) (spec_l6Plan.l0 (k + 1) y0 y1 y2 y3 y4))
 | 0=>fun _ _ _ _ _ r h=>by simp [spec_l6Plan.l0] at h
 | k + 1=>by
  have ih0:=spec_l6Plan.mono_l k
  ·intro y0 y1 y2 y3 y4
   unfold spec_l6Plan.l0
   repeat' first
   | (with_reducible exact ih0 _ _ _ _ _)
   | (with_reducible exact LeO.refl _)
   | (with_reducible exact LeO.none _)
   | (with_reducible refine LeO.ite ?_ ?_)
   | (with_reducible refine LeO.bind ?_ (fun _=>?_))
   | exact ih0 _ _ _ _ _
   | exact LeO.none _
   | refine LeO.ite ?_ ?_
   | refine LeO.bind ?_ (fun _=>?_)
theorem spec_l6Plan.mono : ∀ a0 a1 a2 k,LeO (spec_l6Plan.f k a0 a1 a2) (spec_l6Plan.f (k + 1) a0 a1 a2):=by
 intro a0 a1 a2 k
 have ih0:=spec_l6Plan.mono_l k
 unfold spec_l6Plan.f
 repeat' first
   | (with_reducible exact ih0 _ _ _ _ _)
   | (with_reducible exact LeO.refl _)
   | (with_reducible exact LeO.none _)
   | (with_reducible refine LeO.ite ?_ ?_)
   | (with_reducible refine LeO.bind ?_ (fun _=>?_))
   | exact ih0 _ _ _ _ _
   | exact LeO.none _
   | refine LeO.ite ?_ ?_
   | refine LeO.bind ?_ (fun _=>?_)
set_option maxHeartbeats 8000000 in
set_option maxRecDepth 100000 in
theorem spec_l6Plan.calls (k : Nat) (g : Nat) (s0_0 : List Int) (s0_1 : Int) (s0_2 : Int) (r1 : List (S119)) (r2 : Int) (r3 : Int) (w0 w : World) (hI : J155 w0 w g s0_0 s0_1 s0_2) (hB : Below w0.heap.size w0 w) (h : spec_l6Plan.f k s0_0 s0_1 s0_2 = some (r1,r2,r3)) :
  Calls Try.prog 153 #[.pointer (some ⟨g,0,none⟩)] w fun e w'=>∃ v0_ : Value,e = .returned (v0_) ∧ Kd.R k119 119 w' w.heap.size (fun _=>True) v0_ r1 ∧ J155 w0 w' g s0_0 r2 r3 ∧ Below w0.heap.size w0 w' ∧ KeepBut w w' g none:=by
 have HI0:=aM_ hI
 have HK:=aM_ (KeepBut.refl w g none)
 have HL:=aM_ hB.size
 clear hI
 have HW0:=aM_ hB.size
 have HB:=aM_ hB
 clear hB
 have H : ((spec_l1Below.f s0_0 s0_1 s0_2 3).bind fun bt527=>(spec_l6Plan.l0 k (([] : List (S119))) (wrap64 (1 + bt527.1)) s0_0 bt527.2.1 bt527.2.2)) = some (r1,r2,r3):=h
 clear h
 obtain ⟨y524,hy524⟩ : ∃ y_ : List (S119),y_ = (([] : List (S119))):=⟨_,rfl⟩
 replace H : ((spec_l1Below.f s0_0 s0_1 s0_2 3).bind fun bt527=>(spec_l6Plan.l0 k y524 (wrap64 (1 + bt527.1)) s0_0 bt527.2.1 bt527.2.2)) = some (r1,r2,r3):=by first | (rw [hy524];with_reducible exact H) | (have H2_:=(Option.bind_some _ _).symm.trans H;rw [hy524];with_reducible exact H2_) | (have H2_:=(Option.bind_some _ _).symm.trans H;with_reducible exact H2_) | with_reducible exact H | (rw [hy524];exact H) | exact H
 have Ny524:=aM_ hy524
 clear hy524
 replace H:=oB_ H
 obtain ⟨⟨t527,t528,t529⟩,A20,H⟩:=H
 replace H : (spec_l6Plan.l0 k y524 (wrap64 (1 + t527)) s0_0 t528 t529) = some (r1,r2,r3):=H
 have A2:=aM_ A20
 clear A20
 have H':=aM_ H
 clear H
 go_enter Try.func153,Try.ntmps153
 go_wp2_with (first | ((with_reducible refine gate_dst (N:=5) rfl ?_);refine Kd.R_lit k119 _ 119 ?hg (N:=5) ?hd (xs:=([] : List (S119))) (inner:=[]) (ok:=fun _=>True) (okp:=fun _=>True) ?hr ?hp (fun _ hk=>hk) trivial (Below.refl _ _) (Nat.le_refl _) (by simp) ?_;(case hd=>rfl);(case hg=>rfl);(case hr=>first | (go_simp;done) | (go_simp;rfl));(case hp=>exact (Reps.none _ _));intro v525 w3 ho4 hb hg_ hnew_;clear hg_ hnew_;(first | rw [← Ny524.out] at ho4 | (simp only [Int.reduceToNat] at ho4;rw [← Ny524.out] at ho4));have n0_:=aM_ (Kd.R_lower ho4 (keep_size (w:=w) (g:=g) (row:=none) (by exact eZ_ HK)));have n1_:=aM_ (J155.below (by repeat first | exact J155.z HI0 | apply J155.set_1 | apply J155.set_2 | refine J155.y ?_) hb);have n2_:=aM_ (KeepBut.trans (by exact eZ_ HK) (KeepBut.of_below hb g none) (.inl rfl));have n3_:=aM_ (bT_ (by have e0_:=aM_ (J155.ge HI0.out);exact bZ_ HB) hb);clear HI0;clear HK;clear HB;have HO526:=n0_;have HI0:=n1_;have HK:=n2_;have HB:=n3_;clear n0_ n1_ n2_ n3_;clear hb ho4) | ((with_reducible refine gate_callee (f:=125) rfl ?_);refine goesL_ (some 7) rfl rfl Try.func125 (by kernel_rfl) rfl #[.pointer (some ⟨g,0,none⟩),.int .i64 3] rfl (by (try simp only [mA_,mC_,mN_]);first | done | rfl | (simp only [lD_,lT_];rfl)) ?_;(with_reducible refine (spec_l1Below.calls g s0_0 s0_1 s0_2 3 t527 t528 t529 w0 _ ?side1 ?side2 A2.out).mono ?_);(case side1=>repeat first | exact J155.z HI0 | apply J155.set_1 | apply J155.set_2 | refine J155.y ?_);(case side2=>have e0_:=aM_ (J155.ge HI0.out);exact bZ_ HB);rintro e w5 ⟨rfl,hi,hb,hk⟩;refine ⟨_,rfl,?_⟩;have n0_:=aM_ (Kd.R_mono (Kd.R_keep (J155.apart (show J155 w0 _ g s0_0 s0_1 s0_2 from by repeat first | exact J155.z HI0 | apply J155.set_1 | apply J155.set_2 | refine J155.y ?_) (by exact rZ_ HO526) (by decide)) hk (fun _ h=>h.2)) (fun _ h=>h.1));have n1_:=aM_ (KeepBut.trans (by exact eZ_ HK) hk (.inl rfl));have n2_:=aM_ (hb);have n3_:=aM_ (hi);clear HO526;clear HK;clear HB;clear HI0;have HO526:=n0_;have HK:=n1_;have HB:=n2_;have HI0:=n3_;clear n0_ n1_ n2_ n3_;(try clear hb);(try clear hb2);(try clear hk);(try clear hi)))
 (try simp only [Act.put,sI_,sS_,sZ_])
 go_loopg [3,4] k (fun kq v3 v4 w'=>∃ (x3_1 : List (S119)) (x4_1 : Int) (x1001_1 : Int) (x1002_1 : Int),v4 = .int .i64 x4_1 ∧ Aside0 (spec_l6Plan.l0 kq x3_1 x4_1 s0_0 x1001_1 x1002_1 = some (r1,r2,r3)) ∧ Aside0 (kq ≤ k) ∧ Aside0 (Kd.R k119 119 w' w.heap.size (fun _=>True) v3 x3_1) ∧ Aside0 (J155 w0 w' g s0_0 x1001_1 x1002_1) ∧ Aside0 (KeepBut w w' g none) ∧ Aside0 (Below w0.heap.size w0 w'))
 case atStart=>exact ⟨(y524),(wrap64 (1 + t527)),(t528),(t529),(by first | rfl | (simp;done) | (simp [*];done)),H', ⟨Nat.le_refl _⟩,⟨by exact rZ_ HO526⟩,⟨by repeat first | exact J155.z HI0 | apply J155.set_1 | apply J155.set_2 | refine J155.y ?_⟩,⟨by exact eZ_ HK⟩,⟨by have e0_:=aM_ (J155.ge HI0.out);exact bZ_ HB⟩⟩
 case round =>
  clear H'
  try clear c1
  try clear p2
  obtain ⟨x3_1,x4_1,x1001_1,x1002_1,rfl,HA,HK1,HO_3,HI0,HK,HB⟩:=hrel
  cases gk with
  | zero=>exact absurd HA.out (by simp [spec_l6Plan.l0])
  | succ k1 =>
   have H:=HA.out
   clear HA
   simp only [spec_l6Plan.l0] at H
   by_cases c6 : x4_1 > 0
   ·rw [if_pos c6] at H
    have c6b0 : decide (0 < x4_1) = true:=decide_eq_true c6
    clear c6
    replace H:=oB_ H
    obtain ⟨⟨t530,t531,t532⟩,A70,H⟩:=H
    replace H : ((spec_l5Draw.f s0_0 t531 t532 t530).bind fun bt533=>(if x3_1.length < 5864062014805 then (spec_l6Plan.l0 k1 (x3_1 ++ [(⟨bt533.1,bt533.2.1,bt533.2.2.1,bt533.2.2.2.1⟩ : S119)]) (wrap64 (x4_1 - 1)) s0_0 bt533.2.2.2.2.1 bt533.2.2.2.2.2) else (none))) = some (r1,r2,r3):=H
    have A7:=aM_ A70
    clear A70
    replace H:=oB_ H
    obtain ⟨⟨t533,t534,t535,t536,t537,t538⟩,A80,H⟩:=H
    replace H : (if x3_1.length < 5864062014805 then (spec_l6Plan.l0 k1 (x3_1 ++ [(⟨t533,t534,t535,t536⟩ : S119)]) (wrap64 (x4_1 - 1)) s0_0 t537 t538) else (none)) = some (r1,r2,r3):=H
    have A8:=aM_ A80
    clear A80
    by_cases c9 : x3_1.length < 5864062014805
    ·rw [if_pos c9] at H
     have LMc9:=aM_ c9
     clear c9
     obtain ⟨y539,hy539⟩ : ∃ y_ : List (S119),y_ = (x3_1 ++ [(⟨t533,t534,t535,t536⟩ : S119)]):=⟨_,rfl⟩
     replace H : (spec_l6Plan.l0 k1 y539 (wrap64 (x4_1 - 1)) s0_0 t537 t538) = some (r1,r2,r3):=by first | (rw [hy539];with_reducible exact H) | (have H2_:=(Option.bind_some _ _).symm.trans H;rw [hy539];with_reducible exact H2_) | (have H2_:=(Option.bind_some _ _).symm.trans H;with_reducible exact H2_) | with_reducible exact H | (rw [hy539];exact H) | exact H
     have Ny539:=aM_ hy539
     clear hy539
     have H':=aM_ H
     clear H
     go_wp2_with (first | ((with_reducible refine gate_callee (f:=125) rfl ?_);refine goesL_ (some 16) rfl rfl Try.func125 (by kernel_rfl) rfl #[.pointer (some ⟨g,0,none⟩),.int .i64 4] rfl (by (try simp only [mA_,mC_,mN_]);first | done | rfl | (simp only [lD_,lT_];rfl)) ?_;(with_reducible refine (spec_l1Below.calls g s0_0 x1001_1 x1002_1 4 t530 t531 t532 w0 _ ?side1 ?side2 A7.out).mono ?_);(case side1=>repeat first | exact J155.z HI0 | apply J155.set_1 | apply J155.set_2 | refine J155.y ?_);(case side2=>have e0_:=aM_ (J155.ge HI0.out);exact bZ_ HB);rintro e w10 ⟨rfl,hi,hb,hk⟩;refine ⟨_,rfl,?_⟩;have n0_:=aM_ (Kd.R_mono (Kd.R_keep (J155.apart (show J155 w0 _ g s0_0 x1001_1 x1002_1 from by repeat first | exact J155.z HI0 | apply J155.set_1 | apply J155.set_2 | refine J155.y ?_) (by exact rZ_ HO_3) (by decide)) hk (fun _ h=>h.2)) (fun _ h=>h.1));have n1_:=aM_ (KeepBut.trans (by exact eZ_ HK) hk (.inl rfl));have n2_:=aM_ (hb);have n3_:=aM_ (hi);clear HO_3;clear HK;clear HB;clear HI0;have HO_3:=n0_;have HK:=n1_;have HB:=n2_;have HI0:=n3_;clear n0_ n1_ n2_ n3_;(try clear hb);(try clear hb2);(try clear hk);(try clear hi)) | ((with_reducible refine gate_callee (f:=155) rfl ?_);refine goesL_ (some 17) rfl rfl Try.func155 (by kernel_rfl) rfl #[.pointer (some ⟨g,0,none⟩),.int .i64 t530] rfl (by (try simp only [mA_,mC_,mN_]);first | done | rfl | (simp only [lD_,lT_];rfl)) ?_;(with_reducible refine (spec_l5Draw.calls g s0_0 t531 t532 t530 t533 t534 t535 t536 t537 t538 w0 _ ?side1 ?side2 A8.out).mono ?_);(case side1=>repeat first | exact J155.z HI0 | apply J155.set_1 | apply J155.set_2 | refine J155.y ?_);(case side2=>have e0_:=aM_ (J155.ge HI0.out);exact bZ_ HB);rintro e w11 ⟨rfl,hi,hb,hk⟩;refine ⟨_,rfl,?_⟩;have n0_:=aM_ (Kd.R_mono (Kd.R_keep (J155.apart (show J155 w0 _ g s0_0 t531 t532 from by repeat first | exact J155.z HI0 | apply J155.set_1 | apply J155.set_2 | refine J155.y ?_) (by exact rZ_ HO_3) (by decide)) hk (fun _ h=>h.2)) (fun _ h=>h.1));have n1_:=aM_ (KeepBut.trans (by exact eZ_ HK) hk (.inl rfl));have n2_:=aM_ (hb);have n3_:=aM_ (hi);clear HO_3;clear HK;clear HB;clear HI0;have HO_3:=n0_;have HK:=n1_;have HB:=n2_;have HI0:=n3_;clear n0_ n1_ n2_ n3_;(try clear hb);(try clear hb2);(try clear hk);(try clear hi)) | ((with_reducible refine gate_builtin (b:=.append) (xs:=#[.tmp 13,.tmp 18]) rfl ?_);at_builtin;refine Kd.R_append k119 w.heap.size rfl (.tmp 13) (.tmp 18) 48 119 (.agg #[(.int .i64 0),(.int .i64 0),(.bool false),(.bool false)]) 24 rfl Try.underlying48 info119 rfl (by decide) (by omega) u3 x3_1 (⟨t533,t534,t535,t536⟩ : S119) [.int .i64 t533,.int .i64 t534,.bool t535,.bool t536] (fun _=>True) (fun _=>False) rfl rfl ?aP (fun _ hk=>hk.elim) ?aF ?aO (Below.refl _ _) ?aS ?aL ?_;(case aP=>exact k119_mkM _ _ _ (⟨t533,t534,t535,t536⟩ : S119));(case aF=>exact (fun _ _=>trivial));(case aO=>exact (by exact rZ_ HO_3));(case aS=>exact (keep_size (w:=w) (g:=g) (row:=none) (by exact eZ_ HK)));(case aL=>have:=LMc9.out;omega);intro v540 w12 ho hb hg hat;rw [← Ny539.out] at ho;have n0_:=aM_ (J155.grown (by repeat first | exact J155.z HI0 | apply J155.set_1 | apply J155.set_2 | refine J155.y ?_) hg (J155.own_ne HI0.out HO_3.out (by decide)));have n1_:=aM_ (below_weaken (by have e0_:=aM_ (J155.ge HI0.out);exact bZ_ HB) HL.out hb);have n2_:=aM_ (KeepBut.trans (by exact eZ_ HK) (KeepBut.of_grown hg g) (Kd.R_base2 HO_3.out));have n3_:=aM_ (ho);clear HI0;clear HB;clear HK;clear HO_3;have HI0:=n0_;have HB:=n1_;have HK:=n2_;have HO541:=n3_;clear n0_ n1_ n2_ n3_;clear ho hb hg hat))
     go_roundg k1
     case measure=>have:=HK1.out;omega
     case rel=>exact ⟨(y539),(wrap64 (x4_1 - 1)),(t537),(t538),(by first | rfl | (simp;done) | (simp [*];done)),H', ⟨by have:=HK1.out;omega⟩,⟨by exact rZ_ HO541⟩,⟨by repeat first | exact J155.z HI0 | apply J155.set_1 | apply J155.set_2 | refine J155.y ?_⟩,⟨by exact eZ_ HK⟩,⟨by have e0_:=aM_ (J155.ge HI0.out);exact bZ_ HB⟩⟩
    ·rw [if_neg c9] at H
     exact absurd H (by simp)
   ·rw [if_neg c6] at H
    have c6b0 : decide (0 < x4_1) = false:=decide_eq_false c6
    clear c6
    simp only [Option.some.injEq,Prod.mk.injEq] at H
    obtain ⟨rfl,rfl,rfl⟩:=H
    go_wp2
    go_ret
    exact ⟨_,by first | rfl | (simp [errW_none,errW_some] <;> rfl) | (simp [*, errW_none,errW_some] <;> rfl),by exact rZ_ HO_3,by repeat first | exact J155.z HI0 | apply J155.set_1 | apply J155.set_2 | refine J155.y ?_,by have e0_:=aM_ (J155.ge HI0.out);exact bZ_ HB,by exact eZ_ HK⟩
def spec_l5Any.f (s0_0 : List Int) (s0_1 : Int) (s0_2 : Int) : Option (Int × Int × Bool × Bool × Int × Int):=(spec_l1Below.f s0_0 s0_1 s0_2 3).bind fun bt543=>((spec_l5Draw.f s0_0 bt543.2.1 bt543.2.2 bt543.1).bind fun bt546=>((spec_l1Below.f s0_0 bt546.2.2.2.2.1 bt546.2.2.2.2.2 12).bind fun bt553=>(if bt553.1 = 0 then ((spec_l1Int.f s0_0 bt553.2.1 bt553.2.2 (([(-1),9,10] : List Int))).bind fun bt559=>(some (bt559.1,bt546.2.1,bt546.2.2.1,bt546.2.2.2.1,bt559.2.1,bt559.2.2))) else (if bt553.1 = 1 then ((spec_l1Below.f s0_0 bt553.2.1 bt553.2.2 6).bind fun bt562=>(some (bt546.1,bt562.1,bt546.2.2.1,bt546.2.2.2.1,bt562.2.1,bt562.2.2))) else (some (bt546.1,bt546.2.1,bt546.2.2.1,bt546.2.2.2.1,bt553.2.1,bt553.2.2))))))
set_option maxHeartbeats 8000000 in
set_option maxRecDepth 100000 in
theorem spec_l5Any.calls (g : Nat) (s0_0 : List Int) (s0_1 : Int) (s0_2 : Int) (r1 : Int) (r2 : Int) (r3 : Bool) (r4 : Bool) (r5 : Int) (r6 : Int) (w0 w : World) (hI : J155 w0 w g s0_0 s0_1 s0_2) (hB : Below w0.heap.size w0 w) (h : spec_l5Any.f s0_0 s0_1 s0_2 = some (r1,r2,r3,r4,r5,r6)) :
  Calls Try.prog 154 #[.pointer (some ⟨g,0,none⟩)] w fun e w'=>e = .returned (.agg #[.int .i64 r1,.int .i64 r2,.bool r3,.bool r4]) ∧ J155 w0 w' g s0_0 r5 r6 ∧ Below w0.heap.size w0 w' ∧ KeepBut w w' g none:=by
 have hu119:=Try.underlying119
 have HI0:=aM_ hI
 have HK:=aM_ (KeepBut.refl w g none)
 have HL:=aM_ hB.size
 clear hI
 have HW0:=aM_ hB.size
 have HB:=aM_ hB
 clear hB
 have H : ((spec_l1Below.f s0_0 s0_1 s0_2 3).bind fun bt543=>((spec_l5Draw.f s0_0 bt543.2.1 bt543.2.2 bt543.1).bind fun bt546=>((spec_l1Below.f s0_0 bt546.2.2.2.2.1 bt546.2.2.2.2.2 12).bind fun bt553=>(if bt553.1 = 0 then ((spec_l1Int.f s0_0 bt553.2.1 bt553.2.2 (([(-1),9,10] : List Int))).bind fun bt559=>(some (bt559.1,bt546.2.1,bt546.2.2.1,bt546.2.2.2.1,bt559.2.1,bt559.2.2))) else (if bt553.1 = 1 then ((spec_l1Below.f s0_0 bt553.2.1 bt553.2.2 6).bind fun bt562=>(some (bt546.1,bt562.1,bt546.2.2.1,bt546.2.2.2.1,bt562.2.1,bt562.2.2))) else (some (bt546.1,bt546.2.1,bt546.2.2.1,bt546.2.2.2.1,bt553.2.1,bt553.2.2))))))) = some (r1,r2,r3,r4,r5,r6):=h
 clear h
 replace H:=oB_ H
 obtain ⟨⟨t543,t544,t545⟩,A20,H⟩:=H
 replace H : ((spec_l5Draw.f s0_0 t544 t545 t543).bind fun bt546=>((spec_l1Below.f s0_0 bt546.2.2.2.2.1 bt546.2.2.2.2.2 12).bind fun bt553=>(if bt553.1 = 0 then ((spec_l1Int.f s0_0 bt553.2.1 bt553.2.2 (([(-1),9,10] : List Int))).bind fun bt559=>(some (bt559.1,bt546.2.1,bt546.2.2.1,bt546.2.2.2.1,bt559.2.1,bt559.2.2))) else (if bt553.1 = 1 then ((spec_l1Below.f s0_0 bt553.2.1 bt553.2.2 6).bind fun bt562=>(some (bt546.1,bt562.1,bt546.2.2.1,bt546.2.2.2.1,bt562.2.1,bt562.2.2))) else (some (bt546.1,bt546.2.1,bt546.2.2.1,bt546.2.2.2.1,bt553.2.1,bt553.2.2)))))) = some (r1,r2,r3,r4,r5,r6):=H
 have A2:=aM_ A20
 clear A20
 replace H:=oB_ H
 obtain ⟨⟨t546,t547,t548,t549,t550,t551⟩,A30,H⟩:=H
 replace H : ((spec_l1Below.f s0_0 t550 t551 12).bind fun bt553=>(if bt553.1 = 0 then ((spec_l1Int.f s0_0 bt553.2.1 bt553.2.2 (([(-1),9,10] : List Int))).bind fun bt559=>(some (bt559.1,t547,t548,t549,bt559.2.1,bt559.2.2))) else (if bt553.1 = 1 then ((spec_l1Below.f s0_0 bt553.2.1 bt553.2.2 6).bind fun bt562=>(some (t546,bt562.1,t548,t549,bt562.2.1,bt562.2.2))) else (some (t546,t547,t548,t549,bt553.2.1,bt553.2.2))))) = some (r1,r2,r3,r4,r5,r6):=H
 have A3:=aM_ A30
 clear A30
 replace H:=oB_ H
 obtain ⟨⟨t553,t554,t555⟩,A40,H⟩:=H
 replace H : (if t553 = 0 then ((spec_l1Int.f s0_0 t554 t555 (([(-1),9,10] : List Int))).bind fun bt559=>(some (bt559.1,t547,t548,t549,bt559.2.1,bt559.2.2))) else (if t553 = 1 then ((spec_l1Below.f s0_0 t554 t555 6).bind fun bt562=>(some (t546,bt562.1,t548,t549,bt562.2.1,bt562.2.2))) else (some (t546,t547,t548,t549,t554,t555)))) = some (r1,r2,r3,r4,r5,r6):=H
 have A4:=aM_ A40
 clear A40
 by_cases c5 : t553 = 0
 ·rw [if_pos c5] at H
  have c5b0 : (t553 == 0) = true:=beq_iff_eq.mpr c5
  have c5b1 : (t553 != 0) = false:=bne_eq_false_iff_eq.mpr c5
  clear c5
  obtain ⟨y556,hy556⟩ : ∃ y_ : List Int,y_ = (([(-1),9,10] : List Int)):=⟨_,rfl⟩
  replace H : ((spec_l1Int.f s0_0 t554 t555 y556).bind fun bt559=>(some (bt559.1,t547,t548,t549,bt559.2.1,bt559.2.2))) = some (r1,r2,r3,r4,r5,r6):=by first | (rw [hy556];with_reducible exact H) | (have H2_:=(Option.bind_some _ _).symm.trans H;rw [hy556];with_reducible exact H2_) | (have H2_:=(Option.bind_some _ _).symm.trans H;with_reducible exact H2_) | with_reducible exact H | (rw [hy556];exact H) | exact H
  have Ny556:=aM_ hy556
  clear hy556
  replace H:=oB_ H
  obtain ⟨⟨t559,t560,t561⟩,A60,H⟩:=H
  replace H : (some (t559,t547,t548,t549,t560,t561)) = some (r1,r2,r3,r4,r5,r6):=H
  have A6:=aM_ A60
  clear A60
  simp only [Option.some.injEq,Prod.mk.injEq] at H
  obtain ⟨rfl,rfl,rfl,rfl,rfl,rfl⟩:=H
  go_enter Try.func154,Try.ntmps154
  go_wp2_with (first | ((with_reducible refine gate_dst (N:=2) rfl ?_);refine box_event ?hg (N:=2) ?hd (cs:=#[.int .i64 0,.int .i64 0,.bool false,.bool false]) (t:=119) ?hr ?_;(case hd=>rfl);(case hg=>rfl);(case hr=>first | (go_simp;done) | (go_simp;rfl));intro gb542 hg w7 hbox hb;have n0_:=aM_ (J155.below (by repeat first | exact J155.z HI0 | apply J155.set_1 | apply J155.set_2 | refine J155.y ?_) hb);have n1_:=aM_ (KeepBut.trans (by exact eZ_ HK) (KeepBut.of_below hb g none) (.inl rfl));have n2_:=aM_ (bT_ (by have e0_:=aM_ (J155.ge HI0.out);exact bZ_ HB) hb);have n3_:=aM_ (hbox);have n4_:=aM_ ((by rw [hg];exact (keep_size (w:=w) (g:=g) (row:=none) (by exact eZ_ HK)) : w.heap.size ≤ gb542));have n5_:=aM_ ((Nat.le_trans HW0.out (by rw [hg];exact (keep_size (w:=w) (g:=g) (row:=none) (by exact eZ_ HK)) : w.heap.size ≤ gb542) : w0.heap.size ≤ gb542));have n6_:=aM_ ((by rw [hg];exact nN_ (J155.lt (show J155 w0 _ g s0_0 s0_1 s0_2 from by repeat first | exact J155.z HI0 | apply J155.set_1 | apply J155.set_2 | refine J155.y ?_)) : g ≠ gb542));have n7_:=aM_ ((by rw [hg];exact Nat.ne_of_gt (J155.lt (show J155 w0 _ g s0_0 s0_1 s0_2 from by repeat first | exact J155.z HI0 | apply J155.set_1 | apply J155.set_2 | refine J155.y ?_)) : gb542 ≠ g));clear HI0;clear HK;clear HB;have HI0:=n0_;have HK:=n1_;have HB:=n2_;have BK542:=n3_;have GW542:=n4_;have GE542:=n5_;have NB0_542:=n6_;have NB542_0:=n7_;clear n0_ n1_ n2_ n3_ n4_ n5_ n6_ n7_;clear hb hbox hg) | ((with_reducible refine gate_callee (f:=125) rfl ?_);refine goesL_ (some 6) rfl rfl Try.func125 (by kernel_rfl) rfl #[.pointer (some ⟨g,0,none⟩),.int .i64 3] rfl (by (try simp only [mA_,mC_,mN_]);first | done | rfl | (simp only [lD_,lT_];rfl)) ?_;(with_reducible refine (spec_l1Below.calls g s0_0 s0_1 s0_2 3 t543 t544 t545 w0 _ ?side1 ?side2 A2.out).mono ?_);(case side1=>repeat first | exact J155.z HI0 | apply J155.set_1 | apply J155.set_2 | refine J155.y ?_);(case side2=>have e0_:=aM_ (J155.ge HI0.out);exact bZ_ HB);rintro e w8 ⟨rfl,hi,hb,hk⟩;refine ⟨_,rfl,?_⟩;have n0_:=aM_ (KeepBut.blk hk (g':=gb542) (o:=.cells #[.int .i64 0,.int .i64 0,.bool false,.bool false] 119 (0,0)) (by exact kZ_ BK542) NB542_0.out (by simp));have n1_:=aM_ (KeepBut.trans (by exact eZ_ HK) hk (.inl rfl));have n2_:=aM_ (hb);have n3_:=aM_ (hi);clear BK542;clear HK;clear HB;clear HI0;have BK542:=n0_;have HK:=n1_;have HB:=n2_;have HI0:=n3_;clear n0_ n1_ n2_ n3_;(try clear hb);(try clear hb2);(try clear hk);(try clear hi)) | ((with_reducible refine gate_callee (f:=155) rfl ?_);refine goesL_ (some 7) rfl rfl Try.func155 (by kernel_rfl) rfl #[.pointer (some ⟨g,0,none⟩),.int .i64 t543] rfl (by (try simp only [mA_,mC_,mN_]);first | done | rfl | (simp only [lD_,lT_];rfl)) ?_;(with_reducible refine (spec_l5Draw.calls g s0_0 t544 t545 t543 t546 t547 t548 t549 t550 t551 w0 _ ?side1 ?side2 A3.out).mono ?_);(case side1=>repeat first | exact J155.z HI0 | apply J155.set_1 | apply J155.set_2 | refine J155.y ?_);(case side2=>have e0_:=aM_ (J155.ge HI0.out);exact bZ_ HB);rintro e w9 ⟨rfl,hi,hb,hk⟩;refine ⟨_,rfl,?_⟩;have n0_:=aM_ (KeepBut.blk hk (g':=gb542) (o:=.cells #[.int .i64 0,.int .i64 0,.bool false,.bool false] 119 (0,0)) (by exact kZ_ BK542) NB542_0.out (by simp));have n1_:=aM_ (KeepBut.trans (by exact eZ_ HK) hk (.inl rfl));have n2_:=aM_ (hb);have n3_:=aM_ (hi);clear BK542;clear HK;clear HB;clear HI0;have BK542:=n0_;have HK:=n1_;have HB:=n2_;have HI0:=n3_;clear n0_ n1_ n2_ n3_;(try clear hb);(try clear hb2);(try clear hk);(try clear hi)) | ((with_reducible refine gate_dst (N:=3) rfl ?_);refine box_event ?hg (N:=3) ?hd (cs:=#[.int .i64 0,.int .i64 0,.bool false,.bool false]) (t:=119) ?hr ?_;(case hd=>rfl);(case hg=>rfl);(case hr=>first | (go_simp;done) | (go_simp;rfl));intro gb552 hg w10 hbox hb;have n0_:=aM_ (J155.below (by repeat first | exact J155.z HI0 | apply J155.set_1 | apply J155.set_2 | refine J155.y ?_) hb);have n1_:=aM_ (blk_below (g:=gb542) (o:=.cells #[.int .i64 0,.int .i64 0,.bool false,.bool false] 119 (0,0)) (by exact kZ_ BK542) hb);have n2_:=aM_ (KeepBut.trans (by exact eZ_ HK) (KeepBut.of_below hb g none) (.inl rfl));have n3_:=aM_ (bT_ (by have e0_:=aM_ (J155.ge HI0.out);exact bZ_ HB) hb);have n4_:=aM_ (hbox);have n5_:=aM_ ((by rw [hg];exact (keep_size (w:=w) (g:=g) (row:=none) (by exact eZ_ HK)) : w.heap.size ≤ gb552));have n6_:=aM_ ((Nat.le_trans HW0.out (by rw [hg];exact (keep_size (w:=w) (g:=g) (row:=none) (by exact eZ_ HK)) : w.heap.size ≤ gb552) : w0.heap.size ≤ gb552));have n7_:=aM_ ((by rw [hg];exact nN_ (blk_lt (g:=gb542) (o:=.cells #[.int .i64 0,.int .i64 0,.bool false,.bool false] 119 (0,0)) (by exact kZ_ BK542)) : gb542 ≠ gb552));have n8_:=aM_ ((by rw [hg];exact Nat.ne_of_gt (blk_lt (g:=gb542) (o:=.cells #[.int .i64 0,.int .i64 0,.bool false,.bool false] 119 (0,0)) (by exact kZ_ BK542)) : gb552 ≠ gb542));have n9_:=aM_ ((by rw [hg];exact nN_ (J155.lt (show J155 w0 _ g s0_0 t550 t551 from by repeat first | exact J155.z HI0 | apply J155.set_1 | apply J155.set_2 | refine J155.y ?_)) : g ≠ gb552));have n10_:=aM_ ((by rw [hg];exact Nat.ne_of_gt (J155.lt (show J155 w0 _ g s0_0 t550 t551 from by repeat first | exact J155.z HI0 | apply J155.set_1 | apply J155.set_2 | refine J155.y ?_)) : gb552 ≠ g));clear HI0;clear BK542;clear HK;clear HB;have HI0:=n0_;have BK542:=n1_;have HK:=n2_;have HB:=n3_;have BK552:=n4_;have GW552:=n5_;have GE552:=n6_;have NB542_552:=n7_;have NB552_542:=n8_;have NB0_552:=n9_;have NB552_0:=n10_;clear n0_ n1_ n2_ n3_ n4_ n5_ n6_ n7_ n8_ n9_ n10_;clear hb hbox hg;have hnb11:=NB552_542.out;have hnc11:=NB542_552.out;have hnb12:=NB552_0.out;have hnc12:=NB0_552.out;have hcz13_0 : w10.cell? ⟨gb552,0,none⟩ = some (.int .i64 0):=(kC_ BK552.out 0).trans rfl;have hcz13_1 : w10.cell? ⟨gb552,1,none⟩ = some (.int .i64 0):=(kC_ BK552.out 1).trans rfl;have hcz13_2 : w10.cell? ⟨gb552,2,none⟩ = some (.bool false):=(kC_ BK552.out 2).trans rfl;have hcz13_3 : w10.cell? ⟨gb552,3,none⟩ = some (.bool false):=(kC_ BK552.out 3).trans rfl;have hfz13_0:=kF_ BK552.out 0;have hfz13_1:=kF_ BK552.out 1;have hfz13_2:=kF_ BK552.out 2;have hfz13_3:=kF_ BK552.out 3) | ((with_reducible refine gate_callee (f:=125) rfl ?_);refine goesL_ (some 9) rfl rfl Try.func125 (by kernel_rfl) rfl #[.pointer (some ⟨g,0,none⟩),.int .i64 12] rfl (by (try simp only [mA_,mC_,mN_]);first | done | rfl | (simp only [lD_,lT_];rfl)) ?_;(with_reducible refine (spec_l1Below.calls g s0_0 t550 t551 12 t553 t554 t555 w0 _ ?side1 ?side2 A4.out).mono ?_);(case side1=>repeat first | exact J155.z HI0 | apply J155.set_1 | apply J155.set_2 | refine J155.y ?_);(case side2=>have e0_:=aM_ (J155.ge HI0.out);exact bZ_ HB);rintro e w14 ⟨rfl,hi,hb,hk⟩;refine ⟨_,rfl,?_⟩;have n0_:=aM_ (KeepBut.blk hk (g':=gb542) (o:=.cells #[.int .i64 0,.int .i64 0,.bool false,.bool false] 119 (0,0)) (by exact kW_ BK542) NB542_0.out (by simp));have n1_:=aM_ (KeepBut.blk hk (g':=gb552) (o:=.cells #[.int .i64 t546,.int .i64 t547,.bool t548,.bool t549] 119 (0,0)) (by (with_reducible repeat (first | refine kN_ ?_ _ | refine kD_ ?_ | refine kA_ ?_ _));refine kP_ (cs:=#[.int .i64 t546,.int .i64 t547,.bool t548,.bool false]) ?_ 3 _ rfl;(with_reducible repeat (first | refine kN_ ?_ _ | refine kD_ ?_ | refine kA_ ?_ _));refine kP_ (cs:=#[.int .i64 t546,.int .i64 t547,.bool false,.bool false]) ?_ 2 _ rfl;(with_reducible repeat (first | refine kN_ ?_ _ | refine kD_ ?_ | refine kA_ ?_ _));refine kP_ (cs:=#[.int .i64 t546,.int .i64 0,.bool false,.bool false]) ?_ 1 _ rfl;(with_reducible repeat (first | refine kN_ ?_ _ | refine kD_ ?_ | refine kA_ ?_ _));refine kP_ (cs:=#[.int .i64 0,.int .i64 0,.bool false,.bool false]) ?_ 0 _ rfl;exact kZ_ BK552) NB552_0.out (by simp));have n2_:=aM_ (KeepBut.trans (by exact eZ_ HK) hk (.inl rfl));have n3_:=aM_ (hb);have n4_:=aM_ (hi);clear BK542;clear BK552;clear HK;clear HB;clear HI0;have BK542:=n0_;have BK552:=n1_;have HK:=n2_;have HB:=n3_;have HI0:=n4_;clear n0_ n1_ n2_ n3_ n4_;(try clear hb);(try clear hb2);(try clear hk);(try clear hi)) | ((with_reducible refine gate_dst (N:=13) rfl ?_);refine Kd.R_lit (Kd.int .i64) _ 3 ?hg (N:=13) ?hd (xs:=([(-1),9,10] : List Int)) (inner:=[.int .i64 (-1),.int .i64 9,.int .i64 10]) (ok:=fun _=>True) (okp:=fun _=>True) ?hr ?hp (fun _ hk=>hk) trivial (Below.refl _ _) (Nat.le_refl _) (by simp) ?_;(case hd=>rfl);(case hg=>rfl);(case hr=>first | (go_simp;done) | (go_simp;rfl));(case hp=>exact (Reps.one (show Kd.M (Kd.int .i64) _ _ _ (-1) [.int .i64 (-1)] from rfl) (Reps.one (show Kd.M (Kd.int .i64) _ _ _ 9 [.int .i64 9] from rfl) (Reps.one (show Kd.M (Kd.int .i64) _ _ _ 10 [.int .i64 10] from rfl) (Reps.none _ _)))));intro v557 w15 ho16 hb hg_ hnew_;clear hg_ hnew_;(first | rw [← Ny556.out] at ho16 | (simp only [Int.reduceToNat] at ho16;rw [← Ny556.out] at ho16));have n0_:=aM_ (Kd.R_lower ho16 (keep_size (w:=w) (g:=g) (row:=none) (by exact eZ_ HK)));have n1_:=aM_ (J155.below (by repeat first | exact J155.z HI0 | apply J155.set_1 | apply J155.set_2 | refine J155.y ?_) hb);have n2_:=aM_ (blk_below (g:=gb542) (o:=.cells #[.int .i64 0,.int .i64 0,.bool false,.bool false] 119 (0,0)) (by exact kZ_ BK542) hb);have n3_:=aM_ (blk_below (g:=gb552) (o:=.cells #[.int .i64 t546,.int .i64 t547,.bool t548,.bool t549] 119 (0,0)) (by exact kZ_ BK552) hb);have n4_:=aM_ (KeepBut.trans (by exact eZ_ HK) (KeepBut.of_below hb g none) (.inl rfl));have n5_:=aM_ (bT_ (by have e0_:=aM_ (J155.ge HI0.out);exact bZ_ HB) hb);clear HI0;clear BK542;clear BK552;clear HK;clear HB;have HO558:=n0_;have HI0:=n1_;have BK542:=n2_;have BK552:=n3_;have HK:=n4_;have HB:=n5_;clear n0_ n1_ n2_ n3_ n4_ n5_;clear hb ho16;obtain ⟨Ao17,co17,eo17⟩:=Kd.R_slice HO558.out;subst eo17) | ((with_reducible refine gate_callee (f:=145) rfl ?_);refine goesL_ (some 14) rfl rfl Try.func145 (by kernel_rfl) rfl #[.pointer (some ⟨g,0,none⟩),.slice Ao17 y556.length co17] rfl (by (try simp only [mA_,mC_,mN_]);first | done | rfl | (simp only [lD_,lT_];rfl)) ?_;(with_reducible refine (spec_l1Int.calls g s0_0 t554 t555 _ _ y556 t559 t560 t561 w0 _ ?side1 ?side2 ?side3 ?side4 ?side5 A6.out).mono ?_);(case side1=>repeat first | exact J155.z HI0 | apply J155.set_1 | apply J155.set_2 | refine J155.y ?_);(case side2=>have e0_:=aM_ (J155.ge HI0.out);exact bZ_ HB);(case side3=>repeat (first | exact (Kd.R_reads' HO558.out).2.2 | (with_reducible refine cA_ ?_ _) | (with_reducible refine cN_ ?_ _) | (with_reducible refine cD_ ?_)));(case side4=>exact (Kd.R_reads' HO558.out).2.1);(case side5=>exact far_slice (J155.own_ne HI0.out HO558.out (by decide)));rintro e w18 ⟨rfl,hi,hb,hk⟩;refine ⟨_,rfl,?_⟩;have n0_:=aM_ (KeepBut.blk hk (g':=gb542) (o:=.cells #[.int .i64 0,.int .i64 0,.bool false,.bool false] 119 (0,0)) (by exact kZ_ BK542) NB542_0.out (by simp));have n1_:=aM_ (KeepBut.blk hk (g':=gb552) (o:=.cells #[.int .i64 t546,.int .i64 t547,.bool t548,.bool t549] 119 (0,0)) (by exact kZ_ BK552) NB552_0.out (by simp));have n2_:=aM_ (Kd.R_mono (Kd.R_keep (J155.apart (show J155 w0 _ g s0_0 t554 t555 from by repeat first | exact J155.z HI0 | apply J155.set_1 | apply J155.set_2 | refine J155.y ?_) (by exact rZ_ HO558) (by decide)) hk (fun _ h=>h.2)) (fun _ h=>h.1));have n3_:=aM_ (KeepBut.trans (by exact eZ_ HK) hk (.inl rfl));have n4_:=aM_ (hb);have n5_:=aM_ (hi);clear BK542;clear BK552;clear HO558;clear HK;clear HB;clear HI0;have BK542:=n0_;have BK552:=n1_;have HO558:=n2_;have HK:=n3_;have HB:=n4_;have HI0:=n5_;clear n0_ n1_ n2_ n3_ n4_ n5_;(try clear hb);(try clear hb2);(try clear hk);(try clear hi);have hcz19_0 : w18.cell? ⟨gb552,0,none⟩ = some (.int .i64 t546):=(kC_ BK552.out 0).trans rfl;have hcz19_1 : w18.cell? ⟨gb552,1,none⟩ = some (.int .i64 t547):=(kC_ BK552.out 1).trans rfl;have hcz19_2 : w18.cell? ⟨gb552,2,none⟩ = some (.bool t548):=(kC_ BK552.out 2).trans rfl;have hcz19_3 : w18.cell? ⟨gb552,3,none⟩ = some (.bool t549):=(kC_ BK552.out 3).trans rfl;have hfz19_0:=kF_ BK552.out 0;have hfz19_1:=kF_ BK552.out 1;have hfz19_2:=kF_ BK552.out 2;have hfz19_3:=kF_ BK552.out 3;have hnb20:=NB542_0.out;have hnc20:=NB0_542.out;have hcz21_0 : w18.cell? ⟨gb542,0,none⟩ = some (.int .i64 0):=(kC_ BK542.out 0).trans rfl;have hcz21_1 : w18.cell? ⟨gb542,1,none⟩ = some (.int .i64 0):=(kC_ BK542.out 1).trans rfl;have hcz21_2 : w18.cell? ⟨gb542,2,none⟩ = some (.bool false):=(kC_ BK542.out 2).trans rfl;have hcz21_3 : w18.cell? ⟨gb542,3,none⟩ = some (.bool false):=(kC_ BK542.out 3).trans rfl;have hfz21_0:=kF_ BK542.out 0;have hfz21_1:=kF_ BK542.out 1;have hfz21_2:=kF_ BK542.out 2;have hfz21_3:=kF_ BK542.out 3))
  refine bodyPost_ret (results_cell_row rfl _ _ gb542 119 #[.int .i64 t559,.int .i64 t547,.bool t548,.bool t549] (0,0) _ rfl (by (with_reducible repeat (first | refine kN_ ?_ _ | refine kD_ ?_ | refine kA_ ?_ _));refine kP_ (cs:=#[.int .i64 t559,.int .i64 t547,.bool t548,.bool false]) ?_ 3 _ rfl;(with_reducible repeat (first | refine kN_ ?_ _ | refine kD_ ?_ | refine kA_ ?_ _));refine kP_ (cs:=#[.int .i64 t559,.int .i64 t547,.bool false,.bool false]) ?_ 2 _ rfl;(with_reducible repeat (first | refine kN_ ?_ _ | refine kD_ ?_ | refine kA_ ?_ _));refine kP_ (cs:=#[.int .i64 t559,.int .i64 0,.bool false,.bool false]) ?_ 1 _ rfl;(with_reducible repeat (first | refine kN_ ?_ _ | refine kD_ ?_ | refine kA_ ?_ _));refine kP_ (cs:=#[.int .i64 0,.int .i64 0,.bool false,.bool false]) ?_ 0 _ rfl;exact kW_ BK542) Try.underlying119 rfl (by kernel_rfl)) rfl ?_
  exact ⟨by first | rfl | (simp [errW_none,errW_some] <;> rfl) | (simp [*, errW_none,errW_some] <;> rfl),by repeat first | exact J155.z HI0 | apply J155.set_1 | apply J155.set_2 | refine J155.y ?_,by have e0_:=aM_ (J155.ge HI0.out);exact bZ_ HB,by exact eZ_ HK⟩
 ·rw [if_neg c5] at H
  have c5b0 : (t553 == 0) = false:=beq_eq_false_iff_ne.mpr c5
  have c5b1 : (t553 != 0) = true:=bne_iff_ne.mpr c5
  by_cases c22 : t553 = 1
  ·rw [if_pos c22] at H
   have c22b0 : (t553 == 1) = true:=beq_iff_eq.mpr c22
   have c22b1 : (t553 != 1) = false:=bne_eq_false_iff_eq.mpr c22
   clear c22
   replace H:=oB_ H
   obtain ⟨⟨t562,t563,t564⟩,A230,H⟩:=H
   replace H : (some (t546,t562,t548,t549,t563,t564)) = some (r1,r2,r3,r4,r5,r6):=H
   have A23:=aM_ A230
   clear A230
   simp only [Option.some.injEq,Prod.mk.injEq] at H
   obtain ⟨rfl,rfl,rfl,rfl,rfl,rfl⟩:=H
   go_enter Try.func154,Try.ntmps154
   go_wp2_with (first | ((with_reducible refine gate_dst (N:=2) rfl ?_);refine box_event ?hg (N:=2) ?hd (cs:=#[.int .i64 0,.int .i64 0,.bool false,.bool false]) (t:=119) ?hr ?_;(case hd=>rfl);(case hg=>rfl);(case hr=>first | (go_simp;done) | (go_simp;rfl));intro gb542 hg w24 hbox hb;have n0_:=aM_ (J155.below (by repeat first | exact J155.z HI0 | apply J155.set_1 | apply J155.set_2 | refine J155.y ?_) hb);have n1_:=aM_ (KeepBut.trans (by exact eZ_ HK) (KeepBut.of_below hb g none) (.inl rfl));have n2_:=aM_ (bT_ (by have e0_:=aM_ (J155.ge HI0.out);exact bZ_ HB) hb);have n3_:=aM_ (hbox);have n4_:=aM_ ((by rw [hg];exact (keep_size (w:=w) (g:=g) (row:=none) (by exact eZ_ HK)) : w.heap.size ≤ gb542));have n5_:=aM_ ((Nat.le_trans HW0.out (by rw [hg];exact (keep_size (w:=w) (g:=g) (row:=none) (by exact eZ_ HK)) : w.heap.size ≤ gb542) : w0.heap.size ≤ gb542));have n6_:=aM_ ((by rw [hg];exact nN_ (J155.lt (show J155 w0 _ g s0_0 s0_1 s0_2 from by repeat first | exact J155.z HI0 | apply J155.set_1 | apply J155.set_2 | refine J155.y ?_)) : g ≠ gb542));have n7_:=aM_ ((by rw [hg];exact Nat.ne_of_gt (J155.lt (show J155 w0 _ g s0_0 s0_1 s0_2 from by repeat first | exact J155.z HI0 | apply J155.set_1 | apply J155.set_2 | refine J155.y ?_)) : gb542 ≠ g));clear HI0;clear HK;clear HB;have HI0:=n0_;have HK:=n1_;have HB:=n2_;have BK542:=n3_;have GW542:=n4_;have GE542:=n5_;have NB0_542:=n6_;have NB542_0:=n7_;clear n0_ n1_ n2_ n3_ n4_ n5_ n6_ n7_;clear hb hbox hg) | ((with_reducible refine gate_callee (f:=125) rfl ?_);refine goesL_ (some 6) rfl rfl Try.func125 (by kernel_rfl) rfl #[.pointer (some ⟨g,0,none⟩),.int .i64 3] rfl (by (try simp only [mA_,mC_,mN_]);first | done | rfl | (simp only [lD_,lT_];rfl)) ?_;(with_reducible refine (spec_l1Below.calls g s0_0 s0_1 s0_2 3 t543 t544 t545 w0 _ ?side1 ?side2 A2.out).mono ?_);(case side1=>repeat first | exact J155.z HI0 | apply J155.set_1 | apply J155.set_2 | refine J155.y ?_);(case side2=>have e0_:=aM_ (J155.ge HI0.out);exact bZ_ HB);rintro e w25 ⟨rfl,hi,hb,hk⟩;refine ⟨_,rfl,?_⟩;have n0_:=aM_ (KeepBut.blk hk (g':=gb542) (o:=.cells #[.int .i64 0,.int .i64 0,.bool false,.bool false] 119 (0,0)) (by exact kZ_ BK542) NB542_0.out (by simp));have n1_:=aM_ (KeepBut.trans (by exact eZ_ HK) hk (.inl rfl));have n2_:=aM_ (hb);have n3_:=aM_ (hi);clear BK542;clear HK;clear HB;clear HI0;have BK542:=n0_;have HK:=n1_;have HB:=n2_;have HI0:=n3_;clear n0_ n1_ n2_ n3_;(try clear hb);(try clear hb2);(try clear hk);(try clear hi)) | ((with_reducible refine gate_callee (f:=155) rfl ?_);refine goesL_ (some 7) rfl rfl Try.func155 (by kernel_rfl) rfl #[.pointer (some ⟨g,0,none⟩),.int .i64 t543] rfl (by (try simp only [mA_,mC_,mN_]);first | done | rfl | (simp only [lD_,lT_];rfl)) ?_;(with_reducible refine (spec_l5Draw.calls g s0_0 t544 t545 t543 t546 t547 t548 t549 t550 t551 w0 _ ?side1 ?side2 A3.out).mono ?_);(case side1=>repeat first | exact J155.z HI0 | apply J155.set_1 | apply J155.set_2 | refine J155.y ?_);(case side2=>have e0_:=aM_ (J155.ge HI0.out);exact bZ_ HB);rintro e w26 ⟨rfl,hi,hb,hk⟩;refine ⟨_,rfl,?_⟩;have n0_:=aM_ (KeepBut.blk hk (g':=gb542) (o:=.cells #[.int .i64 0,.int .i64 0,.bool false,.bool false] 119 (0,0)) (by exact kZ_ BK542) NB542_0.out (by simp));have n1_:=aM_ (KeepBut.trans (by exact eZ_ HK) hk (.inl rfl));have n2_:=aM_ (hb);have n3_:=aM_ (hi);clear BK542;clear HK;clear HB;clear HI0;have BK542:=n0_;have HK:=n1_;have HB:=n2_;have HI0:=n3_;clear n0_ n1_ n2_ n3_;(try clear hb);(try clear hb2);(try clear hk);(try clear hi)) | ((with_reducible refine gate_dst (N:=3) rfl ?_);refine box_event ?hg (N:=3) ?hd (cs:=#[.int .i64 0,.int .i64 0,.bool false,.bool false]) (t:=119) ?hr ?_;(case hd=>rfl);(case hg=>rfl);(case hr=>first | (go_simp;done) | (go_simp;rfl));intro gb552 hg w27 hbox hb;have n0_:=aM_ (J155.below (by repeat first | exact J155.z HI0 | apply J155.set_1 | apply J155.set_2 | refine J155.y ?_) hb);have n1_:=aM_ (blk_below (g:=gb542) (o:=.cells #[.int .i64 0,.int .i64 0,.bool false,.bool false] 119 (0,0)) (by exact kZ_ BK542) hb);have n2_:=aM_ (KeepBut.trans (by exact eZ_ HK) (KeepBut.of_below hb g none) (.inl rfl));have n3_:=aM_ (bT_ (by have e0_:=aM_ (J155.ge HI0.out);exact bZ_ HB) hb);have n4_:=aM_ (hbox);have n5_:=aM_ ((by rw [hg];exact (keep_size (w:=w) (g:=g) (row:=none) (by exact eZ_ HK)) : w.heap.size ≤ gb552));have n6_:=aM_ ((Nat.le_trans HW0.out (by rw [hg];exact (keep_size (w:=w) (g:=g) (row:=none) (by exact eZ_ HK)) : w.heap.size ≤ gb552) : w0.heap.size ≤ gb552));have n7_:=aM_ ((by rw [hg];exact nN_ (blk_lt (g:=gb542) (o:=.cells #[.int .i64 0,.int .i64 0,.bool false,.bool false] 119 (0,0)) (by exact kZ_ BK542)) : gb542 ≠ gb552));have n8_:=aM_ ((by rw [hg];exact Nat.ne_of_gt (blk_lt (g:=gb542) (o:=.cells #[.int .i64 0,.int .i64 0,.bool false,.bool false] 119 (0,0)) (by exact kZ_ BK542)) : gb552 ≠ gb542));have n9_:=aM_ ((by rw [hg];exact nN_ (J155.lt (show J155 w0 _ g s0_0 t550 t551 from by repeat first | exact J155.z HI0 | apply J155.set_1 | apply J155.set_2 | refine J155.y ?_)) : g ≠ gb552));have n10_:=aM_ ((by rw [hg];exact Nat.ne_of_gt (J155.lt (show J155 w0 _ g s0_0 t550 t551 from by repeat first | exact J155.z HI0 | apply J155.set_1 | apply J155.set_2 | refine J155.y ?_)) : gb552 ≠ g));clear HI0;clear BK542;clear HK;clear HB;have HI0:=n0_;have BK542:=n1_;have HK:=n2_;have HB:=n3_;have BK552:=n4_;have GW552:=n5_;have GE552:=n6_;have NB542_552:=n7_;have NB552_542:=n8_;have NB0_552:=n9_;have NB552_0:=n10_;clear n0_ n1_ n2_ n3_ n4_ n5_ n6_ n7_ n8_ n9_ n10_;clear hb hbox hg;have hnb28:=NB552_542.out;have hnc28:=NB542_552.out;have hnb29:=NB552_0.out;have hnc29:=NB0_552.out;have hcz30_0 : w27.cell? ⟨gb552,0,none⟩ = some (.int .i64 0):=(kC_ BK552.out 0).trans rfl;have hcz30_1 : w27.cell? ⟨gb552,1,none⟩ = some (.int .i64 0):=(kC_ BK552.out 1).trans rfl;have hcz30_2 : w27.cell? ⟨gb552,2,none⟩ = some (.bool false):=(kC_ BK552.out 2).trans rfl;have hcz30_3 : w27.cell? ⟨gb552,3,none⟩ = some (.bool false):=(kC_ BK552.out 3).trans rfl;have hfz30_0:=kF_ BK552.out 0;have hfz30_1:=kF_ BK552.out 1;have hfz30_2:=kF_ BK552.out 2;have hfz30_3:=kF_ BK552.out 3) | ((with_reducible refine gate_callee (f:=125) rfl ?_);refine goesL_ (some 9) rfl rfl Try.func125 (by kernel_rfl) rfl #[.pointer (some ⟨g,0,none⟩),.int .i64 12] rfl (by (try simp only [mA_,mC_,mN_]);first | done | rfl | (simp only [lD_,lT_];rfl)) ?_;(with_reducible refine (spec_l1Below.calls g s0_0 t550 t551 12 t553 t554 t555 w0 _ ?side1 ?side2 A4.out).mono ?_);(case side1=>repeat first | exact J155.z HI0 | apply J155.set_1 | apply J155.set_2 | refine J155.y ?_);(case side2=>have e0_:=aM_ (J155.ge HI0.out);exact bZ_ HB);rintro e w31 ⟨rfl,hi,hb,hk⟩;refine ⟨_,rfl,?_⟩;have n0_:=aM_ (KeepBut.blk hk (g':=gb542) (o:=.cells #[.int .i64 0,.int .i64 0,.bool false,.bool false] 119 (0,0)) (by exact kW_ BK542) NB542_0.out (by simp));have n1_:=aM_ (KeepBut.blk hk (g':=gb552) (o:=.cells #[.int .i64 t546,.int .i64 t547,.bool t548,.bool t549] 119 (0,0)) (by (with_reducible repeat (first | refine kN_ ?_ _ | refine kD_ ?_ | refine kA_ ?_ _));refine kP_ (cs:=#[.int .i64 t546,.int .i64 t547,.bool t548,.bool false]) ?_ 3 _ rfl;(with_reducible repeat (first | refine kN_ ?_ _ | refine kD_ ?_ | refine kA_ ?_ _));refine kP_ (cs:=#[.int .i64 t546,.int .i64 t547,.bool false,.bool false]) ?_ 2 _ rfl;(with_reducible repeat (first | refine kN_ ?_ _ | refine kD_ ?_ | refine kA_ ?_ _));refine kP_ (cs:=#[.int .i64 t546,.int .i64 0,.bool false,.bool false]) ?_ 1 _ rfl;(with_reducible repeat (first | refine kN_ ?_ _ | refine kD_ ?_ | refine kA_ ?_ _));refine kP_ (cs:=#[.int .i64 0,.int .i64 0,.bool false,.bool false]) ?_ 0 _ rfl;exact kZ_ BK552) NB552_0.out (by simp));have n2_:=aM_ (KeepBut.trans (by exact eZ_ HK) hk (.inl rfl));have n3_:=aM_ (hb);have n4_:=aM_ (hi);clear BK542;clear BK552;clear HK;clear HB;clear HI0;have BK542:=n0_;have BK552:=n1_;have HK:=n2_;have HB:=n3_;have HI0:=n4_;clear n0_ n1_ n2_ n3_ n4_;(try clear hb);(try clear hb2);(try clear hk);(try clear hi)) | ((with_reducible refine gate_callee (f:=125) rfl ?_);refine goesL_ (some 19) rfl rfl Try.func125 (by kernel_rfl) rfl #[.pointer (some ⟨g,0,none⟩),.int .i64 6] rfl (by (try simp only [mA_,mC_,mN_]);first | done | rfl | (simp only [lD_,lT_];rfl)) ?_;(with_reducible refine (spec_l1Below.calls g s0_0 t554 t555 6 t562 t563 t564 w0 _ ?side1 ?side2 A23.out).mono ?_);(case side1=>repeat first | exact J155.z HI0 | apply J155.set_1 | apply J155.set_2 | refine J155.y ?_);(case side2=>have e0_:=aM_ (J155.ge HI0.out);exact bZ_ HB);rintro e w32 ⟨rfl,hi,hb,hk⟩;refine ⟨_,rfl,?_⟩;have n0_:=aM_ (KeepBut.blk hk (g':=gb542) (o:=.cells #[.int .i64 0,.int .i64 0,.bool false,.bool false] 119 (0,0)) (by exact kZ_ BK542) NB542_0.out (by simp));have n1_:=aM_ (KeepBut.blk hk (g':=gb552) (o:=.cells #[.int .i64 t546,.int .i64 t547,.bool t548,.bool t549] 119 (0,0)) (by exact kZ_ BK552) NB552_0.out (by simp));have n2_:=aM_ (KeepBut.trans (by exact eZ_ HK) hk (.inl rfl));have n3_:=aM_ (hb);have n4_:=aM_ (hi);clear BK542;clear BK552;clear HK;clear HB;clear HI0;have BK542:=n0_;have BK552:=n1_;have HK:=n2_;have HB:=n3_;have HI0:=n4_;clear n0_ n1_ n2_ n3_ n4_;(try clear hb);(try clear hb2);(try clear hk);(try clear hi);have hcz33_0 : w32.cell? ⟨gb552,0,none⟩ = some (.int .i64 t546):=(kC_ BK552.out 0).trans rfl;have hcz33_1 : w32.cell? ⟨gb552,1,none⟩ = some (.int .i64 t547):=(kC_ BK552.out 1).trans rfl;have hcz33_2 : w32.cell? ⟨gb552,2,none⟩ = some (.bool t548):=(kC_ BK552.out 2).trans rfl;have hcz33_3 : w32.cell? ⟨gb552,3,none⟩ = some (.bool t549):=(kC_ BK552.out 3).trans rfl;have hfz33_0:=kF_ BK552.out 0;have hfz33_1:=kF_ BK552.out 1;have hfz33_2:=kF_ BK552.out 2;have hfz33_3:=kF_ BK552.out 3;have hnb34:=NB542_0.out;have hnc34:=NB0_542.out;have hcz35_0 : w32.cell? ⟨gb542,0,none⟩ = some (.int .i64 0):=(kC_ BK542.out 0).trans rfl;have hcz35_1 : w32.cell? ⟨gb542,1,none⟩ = some (.int .i64 0):=(kC_ BK542.out 1).trans rfl;have hcz35_2 : w32.cell? ⟨gb542,2,none⟩ = some (.bool false):=(kC_ BK542.out 2).trans rfl;have hcz35_3 : w32.cell? ⟨gb542,3,none⟩ = some (.bool false):=(kC_ BK542.out 3).trans rfl;have hfz35_0:=kF_ BK542.out 0;have hfz35_1:=kF_ BK542.out 1;have hfz35_2:=kF_ BK542.out 2;have hfz35_3:=kF_ BK542.out 3))
   refine bodyPost_ret (results_cell_row rfl _ _ gb542 119 #[.int .i64 t546,.int .i64 t562,.bool t548,.bool t549] (0,0) _ rfl (by (with_reducible repeat (first | refine kN_ ?_ _ | refine kD_ ?_ | refine kA_ ?_ _));refine kP_ (cs:=#[.int .i64 t546,.int .i64 t562,.bool t548,.bool false]) ?_ 3 _ rfl;(with_reducible repeat (first | refine kN_ ?_ _ | refine kD_ ?_ | refine kA_ ?_ _));refine kP_ (cs:=#[.int .i64 t546,.int .i64 t562,.bool false,.bool false]) ?_ 2 _ rfl;(with_reducible repeat (first | refine kN_ ?_ _ | refine kD_ ?_ | refine kA_ ?_ _));refine kP_ (cs:=#[.int .i64 t546,.int .i64 0,.bool false,.bool false]) ?_ 1 _ rfl;(with_reducible repeat (first | refine kN_ ?_ _ | refine kD_ ?_ | refine kA_ ?_ _));refine kP_ (cs:=#[.int .i64 0,.int .i64 0,.bool false,.bool false]) ?_ 0 _ rfl;exact kW_ BK542) Try.underlying119 rfl (by kernel_rfl)) rfl ?_
   exact ⟨by first | rfl | (simp [errW_none,errW_some] <;> rfl) | (simp [*, errW_none,errW_some] <;> rfl),by repeat first | exact J155.z HI0 | apply J155.set_1 | apply J155.set_2 | refine J155.y ?_,by have e0_:=aM_ (J155.ge HI0.out);exact bZ_ HB,by exact eZ_ HK⟩
  ·rw [if_neg c22] at H
   have c22b0 : (t553 == 1) = false:=beq_eq_false_iff_ne.mpr c22
   have c22b1 : (t553 != 1) = true:=bne_iff_ne.mpr c22
   simp only [Option.some.injEq,Prod.mk.injEq] at H
   obtain ⟨rfl,rfl,rfl,rfl,rfl,rfl⟩:=H
   go_enter Try.func154,Try.ntmps154
   go_wp2_with (first | ((with_reducible refine gate_dst (N:=2) rfl ?_);refine box_event ?hg (N:=2) ?hd (cs:=#[.int .i64 0,.int .i64 0,.bool false,.bool false]) (t:=119) ?hr ?_;(case hd=>rfl);(case hg=>rfl);(case hr=>first | (go_simp;done) | (go_simp;rfl));intro gb542 hg w36 hbox hb;have n0_:=aM_ (J155.below (by repeat first | exact J155.z HI0 | apply J155.set_1 | apply J155.set_2 | refine J155.y ?_) hb);have n1_:=aM_ (KeepBut.trans (by exact eZ_ HK) (KeepBut.of_below hb g none) (.inl rfl));have n2_:=aM_ (bT_ (by have e0_:=aM_ (J155.ge HI0.out);exact bZ_ HB) hb);have n3_:=aM_ (hbox);have n4_:=aM_ ((by rw [hg];exact (keep_size (w:=w) (g:=g) (row:=none) (by exact eZ_ HK)) : w.heap.size ≤ gb542));have n5_:=aM_ ((Nat.le_trans HW0.out (by rw [hg];exact (keep_size (w:=w) (g:=g) (row:=none) (by exact eZ_ HK)) : w.heap.size ≤ gb542) : w0.heap.size ≤ gb542));have n6_:=aM_ ((by rw [hg];exact nN_ (J155.lt (show J155 w0 _ g s0_0 s0_1 s0_2 from by repeat first | exact J155.z HI0 | apply J155.set_1 | apply J155.set_2 | refine J155.y ?_)) : g ≠ gb542));have n7_:=aM_ ((by rw [hg];exact Nat.ne_of_gt (J155.lt (show J155 w0 _ g s0_0 s0_1 s0_2 from by repeat first | exact J155.z HI0 | apply J155.set_1 | apply J155.set_2 | refine J155.y ?_)) : gb542 ≠ g));clear HI0;clear HK;clear HB;have HI0:=n0_;have HK:=n1_;have HB:=n2_;have BK542:=n3_;have GW542:=n4_;have GE542:=n5_;have NB0_542:=n6_;have NB542_0:=n7_;clear n0_ n1_ n2_ n3_ n4_ n5_ n6_ n7_;clear hb hbox hg) | ((with_reducible refine gate_callee (f:=125) rfl ?_);refine goesL_ (some 6) rfl rfl Try.func125 (by kernel_rfl) rfl #[.pointer (some ⟨g,0,none⟩),.int .i64 3] rfl (by (try simp only [mA_,mC_,mN_]);first | done | rfl | (simp only [lD_,lT_];rfl)) ?_;(with_reducible refine (spec_l1Below.calls g s0_0 s0_1 s0_2 3 t543 t544 t545 w0 _ ?side1 ?side2 A2.out).mono ?_);(case side1=>repeat first | exact J155.z HI0 | apply J155.set_1 | apply J155.set_2 | refine J155.y ?_);(case side2=>have e0_:=aM_ (J155.ge HI0.out);exact bZ_ HB);rintro e w37 ⟨rfl,hi,hb,hk⟩;refine ⟨_,rfl,?_⟩;have n0_:=aM_ (KeepBut.blk hk (g':=gb542) (o:=.cells #[.int .i64 0,.int .i64 0,.bool false,.bool false] 119 (0,0)) (by exact kZ_ BK542) NB542_0.out (by simp));have n1_:=aM_ (KeepBut.trans (by exact eZ_ HK) hk (.inl rfl));have n2_:=aM_ (hb);have n3_:=aM_ (hi);clear BK542;clear HK;clear HB;clear HI0;have BK542:=n0_;have HK:=n1_;have HB:=n2_;have HI0:=n3_;clear n0_ n1_ n2_ n3_;(try clear hb);(try clear hb2);(try clear hk);(try clear hi)) | ((with_reducible refine gate_callee (f:=155) rfl ?_);refine goesL_ (some 7) rfl rfl Try.func155 (by kernel_rfl) rfl #[.pointer (some ⟨g,0,none⟩),.int .i64 t543] rfl (by (try simp only [mA_,mC_,mN_]);first | done | rfl | (simp only [lD_,lT_];rfl)) ?_;(with_reducible refine (spec_l5Draw.calls g s0_0 t544 t545 t543 t546 t547 t548 t549 t550 t551 w0 _ ?side1 ?side2 A3.out).mono ?_);(case side1=>repeat first | exact J155.z HI0 | apply J155.set_1 | apply J155.set_2 | refine J155.y ?_);(case side2=>have e0_:=aM_ (J155.ge HI0.out);exact bZ_ HB);rintro e w38 ⟨rfl,hi,hb,hk⟩;refine ⟨_,rfl,?_⟩;have n0_:=aM_ (KeepBut.blk hk (g':=gb542) (o:=.cells #[.int .i64 0,.int .i64 0,.bool false,.bool false] 119 (0,0)) (by exact kZ_ BK542) NB542_0.out (by simp));have n1_:=aM_ (KeepBut.trans (by exact eZ_ HK) hk (.inl rfl));have n2_:=aM_ (hb);have n3_:=aM_ (hi);clear BK542;clear HK;clear HB;clear HI0;have BK542:=n0_;have HK:=n1_;have HB:=n2_;have HI0:=n3_;clear n0_ n1_ n2_ n3_;(try clear hb);(try clear hb2);(try clear hk);(try clear hi)) | ((with_reducible refine gate_dst (N:=3) rfl ?_);refine box_event ?hg (N:=3) ?hd (cs:=#[.int .i64 0,.int .i64 0,.bool false,.bool false]) (t:=119) ?hr ?_;(case hd=>rfl);(case hg=>rfl);(case hr=>first | (go_simp;done) | (go_simp;rfl));intro gb552 hg w39 hbox hb;have n0_:=aM_ (J155.below (by repeat first | exact J155.z HI0 | apply J155.set_1 | apply J155.set_2 | refine J155.y ?_) hb);have n1_:=aM_ (blk_below (g:=gb542) (o:=.cells #[.int .i64 0,.int .i64 0,.bool false,.bool false] 119 (0,0)) (by exact kZ_ BK542) hb);have n2_:=aM_ (KeepBut.trans (by exact eZ_ HK) (KeepBut.of_below hb g none) (.inl rfl));have n3_:=aM_ (bT_ (by have e0_:=aM_ (J155.ge HI0.out);exact bZ_ HB) hb);have n4_:=aM_ (hbox);have n5_:=aM_ ((by rw [hg];exact (keep_size (w:=w) (g:=g) (row:=none) (by exact eZ_ HK)) : w.heap.size ≤ gb552));have n6_:=aM_ ((Nat.le_trans HW0.out (by rw [hg];exact (keep_size (w:=w) (g:=g) (row:=none) (by exact eZ_ HK)) : w.heap.size ≤ gb552) : w0.heap.size ≤ gb552));have n7_:=aM_ ((by rw [hg];exact nN_ (blk_lt (g:=gb542) (o:=.cells #[.int .i64 0,.int .i64 0,.bool false,.bool false] 119 (0,0)) (by exact kZ_ BK542)) : gb542 ≠ gb552));have n8_:=aM_ ((by rw [hg];exact Nat.ne_of_gt (blk_lt (g:=gb542) (o:=.cells #[.int .i64 0,.int .i64 0,.bool false,.bool false] 119 (0,0)) (by exact kZ_ BK542)) : gb552 ≠ gb542));have n9_:=aM_ ((by rw [hg];exact nN_ (J155.lt (show J155 w0 _ g s0_0 t550 t551 from by repeat first | exact J155.z HI0 | apply J155.set_1 | apply J155.set_2 | refine J155.y ?_)) : g ≠ gb552));have n10_:=aM_ ((by rw [hg];exact Nat.ne_of_gt (J155.lt (show J155 w0 _ g s0_0 t550 t551 from by repeat first | exact J155.z HI0 | apply J155.set_1 | apply J155.set_2 | refine J155.y ?_)) : gb552 ≠ g));clear HI0;clear BK542;clear HK;clear HB;have HI0:=n0_;have BK542:=n1_;have HK:=n2_;have HB:=n3_;have BK552:=n4_;have GW552:=n5_;have GE552:=n6_;have NB542_552:=n7_;have NB552_542:=n8_;have NB0_552:=n9_;have NB552_0:=n10_;clear n0_ n1_ n2_ n3_ n4_ n5_ n6_ n7_ n8_ n9_ n10_;clear hb hbox hg;have hnb40:=NB552_542.out;have hnc40:=NB542_552.out;have hnb41:=NB552_0.out;have hnc41:=NB0_552.out;have hcz42_0 : w39.cell? ⟨gb552,0,none⟩ = some (.int .i64 0):=(kC_ BK552.out 0).trans rfl;have hcz42_1 : w39.cell? ⟨gb552,1,none⟩ = some (.int .i64 0):=(kC_ BK552.out 1).trans rfl;have hcz42_2 : w39.cell? ⟨gb552,2,none⟩ = some (.bool false):=(kC_ BK552.out 2).trans rfl;have hcz42_3 : w39.cell? ⟨gb552,3,none⟩ = some (.bool false):=(kC_ BK552.out 3).trans rfl;have hfz42_0:=kF_ BK552.out 0;have hfz42_1:=kF_ BK552.out 1;have hfz42_2:=kF_ BK552.out 2;have hfz42_3:=kF_ BK552.out 3) | ((with_reducible refine gate_callee (f:=125) rfl ?_);refine goesL_ (some 9) rfl rfl Try.func125 (by kernel_rfl) rfl #[.pointer (some ⟨g,0,none⟩),.int .i64 12] rfl (by (try simp only [mA_,mC_,mN_]);first | done | rfl | (simp only [lD_,lT_];rfl)) ?_;(with_reducible refine (spec_l1Below.calls g s0_0 t550 t551 12 t553 t554 t555 w0 _ ?side1 ?side2 A4.out).mono ?_);(case side1=>repeat first | exact J155.z HI0 | apply J155.set_1 | apply J155.set_2 | refine J155.y ?_);(case side2=>have e0_:=aM_ (J155.ge HI0.out);exact bZ_ HB);rintro e w43 ⟨rfl,hi,hb,hk⟩;refine ⟨_,rfl,?_⟩;have n0_:=aM_ (KeepBut.blk hk (g':=gb542) (o:=.cells #[.int .i64 0,.int .i64 0,.bool false,.bool false] 119 (0,0)) (by exact kW_ BK542) NB542_0.out (by simp));have n1_:=aM_ (KeepBut.blk hk (g':=gb552) (o:=.cells #[.int .i64 t546,.int .i64 t547,.bool t548,.bool t549] 119 (0,0)) (by (with_reducible repeat (first | refine kN_ ?_ _ | refine kD_ ?_ | refine kA_ ?_ _));refine kP_ (cs:=#[.int .i64 t546,.int .i64 t547,.bool t548,.bool false]) ?_ 3 _ rfl;(with_reducible repeat (first | refine kN_ ?_ _ | refine kD_ ?_ | refine kA_ ?_ _));refine kP_ (cs:=#[.int .i64 t546,.int .i64 t547,.bool false,.bool false]) ?_ 2 _ rfl;(with_reducible repeat (first | refine kN_ ?_ _ | refine kD_ ?_ | refine kA_ ?_ _));refine kP_ (cs:=#[.int .i64 t546,.int .i64 0,.bool false,.bool false]) ?_ 1 _ rfl;(with_reducible repeat (first | refine kN_ ?_ _ | refine kD_ ?_ | refine kA_ ?_ _));refine kP_ (cs:=#[.int .i64 0,.int .i64 0,.bool false,.bool false]) ?_ 0 _ rfl;exact kZ_ BK552) NB552_0.out (by simp));have n2_:=aM_ (KeepBut.trans (by exact eZ_ HK) hk (.inl rfl));have n3_:=aM_ (hb);have n4_:=aM_ (hi);clear BK542;clear BK552;clear HK;clear HB;clear HI0;have BK542:=n0_;have BK552:=n1_;have HK:=n2_;have HB:=n3_;have HI0:=n4_;clear n0_ n1_ n2_ n3_ n4_;(try clear hb);(try clear hb2);(try clear hk);(try clear hi);have hcz44_0 : w43.cell? ⟨gb552,0,none⟩ = some (.int .i64 t546):=(kC_ BK552.out 0).trans rfl;have hcz44_1 : w43.cell? ⟨gb552,1,none⟩ = some (.int .i64 t547):=(kC_ BK552.out 1).trans rfl;have hcz44_2 : w43.cell? ⟨gb552,2,none⟩ = some (.bool t548):=(kC_ BK552.out 2).trans rfl;have hcz44_3 : w43.cell? ⟨gb552,3,none⟩ = some (.bool t549):=(kC_ BK552.out 3).trans rfl;have hfz44_0:=kF_ BK552.out 0;have hfz44_1:=kF_ BK552.out 1;have hfz44_2:=kF_ BK552.out 2;have hfz44_3:=kF_ BK552.out 3;have hnb45:=NB542_0.out;have hnc45:=NB0_542.out;have hcz46_0 : w43.cell? ⟨gb542,0,none⟩ = some (.int .i64 0):=(kC_ BK542.out 0).trans rfl;have hcz46_1 : w43.cell? ⟨gb542,1,none⟩ = some (.int .i64 0):=(kC_ BK542.out 1).trans rfl;have hcz46_2 : w43.cell? ⟨gb542,2,none⟩ = some (.bool false):=(kC_ BK542.out 2).trans rfl;have hcz46_3 : w43.cell? ⟨gb542,3,none⟩ = some (.bool false):=(kC_ BK542.out 3).trans rfl;have hfz46_0:=kF_ BK542.out 0;have hfz46_1:=kF_ BK542.out 1;have hfz46_2:=kF_ BK542.out 2;have hfz46_3:=kF_ BK542.out 3))
   refine bodyPost_ret (results_cell_row rfl _ _ gb542 119 #[.int .i64 t546,.int .i64 t547,.bool t548,.bool t549] (0,0) _ rfl (by (with_reducible repeat (first | refine kN_ ?_ _ | refine kD_ ?_ | refine kA_ ?_ _));refine kP_ (cs:=#[.int .i64 t546,.int .i64 t547,.bool t548,.bool false]) ?_ 3 _ rfl;(with_reducible repeat (first | refine kN_ ?_ _ | refine kD_ ?_ | refine kA_ ?_ _));refine kP_ (cs:=#[.int .i64 t546,.int .i64 t547,.bool false,.bool false]) ?_ 2 _ rfl;(with_reducible repeat (first | refine kN_ ?_ _ | refine kD_ ?_ | refine kA_ ?_ _));refine kP_ (cs:=#[.int .i64 t546,.int .i64 0,.bool false,.bool false]) ?_ 1 _ rfl;(with_reducible repeat (first | refine kN_ ?_ _ | refine kD_ ?_ | refine kA_ ?_ _));refine kP_ (cs:=#[.int .i64 0,.int .i64 0,.bool false,.bool false]) ?_ 0 _ rfl;exact kZ_ BK542) Try.underlying119 rfl (by kernel_rfl)) rfl ?_
   exact ⟨by first | rfl | (simp [errW_none,errW_some] <;> rfl) | (simp [*, errW_none,errW_some] <;> rfl),by repeat first | exact J155.z HI0 | apply J155.set_1 | apply J155.set_2 | refine J155.y ?_,by have e0_:=aM_ (J155.ge HI0.out);exact bZ_ HB,by exact eZ_ HK⟩
def spec_l6Any.l0 : Nat → List (S119) → List Int → Int → Int → Option ((List (S119)) × Int × Int)
 | 0,_,_,_,_=>none
 | k + 1,x3,x1000,x1001,x1002=>(spec_l1Below.f x1000 x1001 x1002 2).bind fun bt580=>(if (x3.length : Int) < (wrap64 (6 + bt580.1)) then ((spec_l5Draw.f x1000 bt580.2.1 bt580.2.2 0).bind fun bt583=>(if x3.length < 5864062014805 then (spec_l6Any.l0 k (x3 ++ [(⟨bt583.1,bt583.2.1,bt583.2.2.1,bt583.2.2.2.1⟩ : S119)]) x1000 bt583.2.2.2.2.1 bt583.2.2.2.2.2) else (none))) else (some (x3,bt580.2.1,bt580.2.2)))
def spec_l6Any.f (k : Nat) (s0_0 : List Int) (s0_1 : Int) (s0_2 : Int) : Option ((List (S119)) × Int × Int):=(spec_l6Plan.f k s0_0 s0_1 s0_2).bind fun bt565=>((spec_l1Below.f s0_0 bt565.2.1 bt565.2.2 12).bind fun bt570=>(if bt570.1 = 0 then ((spec_l5Any.f s0_0 bt570.2.1 bt570.2.2).bind fun bt573=>(if 0 < (bt565.1.length : Int) then (some ((bt565.1.set (0 : Int).toNat (⟨bt573.1,bt573.2.1,bt573.2.2.1,bt573.2.2.2.1⟩ : S119)),bt573.2.2.2.2.1,bt573.2.2.2.2.2)) else (none))) else (if bt570.1 = 1 then (spec_l6Any.l0 k bt565.1 s0_0 bt570.2.1 bt570.2.2) else (some (bt565.1,bt570.2.1,bt570.2.2)))))
theorem spec_l6Any.mono_l : ∀ k,(∀ y0 y1 y2 y3,LeO (spec_l6Any.l0 k y0 y1 y2 y3) (spec_l6Any.l0 (k + 1) y0 y1 y2 y3))
 | 0=>fun _ _ _ _ r h=>by simp [spec_l6Any.l0] at h
 | k + 1=>by
  have ih0:=spec_l6Any.mono_l k
  ·intro y0 y1 y2 y3
   unfold spec_l6Any.l0
   repeat' first
   | (with_reducible exact ih0 _ _ _ _)
   | (with_reducible exact spec_l6Plan.mono _ _ _ _)
   | (with_reducible exact LeO.refl _)
   | (with_reducible exact LeO.none _)
   | (with_reducible refine LeO.ite ?_ ?_)
   | (with_reducible refine LeO.bind ?_ (fun _=>?_))
   | exact ih0 _ _ _ _
   | exact spec_l6Plan.mono _ _ _ _
   | exact LeO.none _
   | refine LeO.ite ?_ ?_
   | refine LeO.bind ?_ (fun _=>?_)
theorem spec_l6Any.mono : ∀ a0 a1 a2 k,LeO (spec_l6Any.f k a0 a1 a2) (spec_l6Any.f (k + 1) a0 a1 a2):=by
 intro a0 a1 a2 k
 have ih0:=spec_l6Any.mono_l k
 unfold spec_l6Any.f
 repeat' first
   | (with_reducible exact ih0 _ _ _ _)
   | (with_reducible exact spec_l6Plan.mono _ _ _ _)
   | (with_reducible exact LeO.refl _)
   | (with_reducible exact LeO.none _)
   | (with_reducible refine LeO.ite ?_ ?_)
   | (with_reducible refine LeO.bind ?_ (fun _=>?_))
   | exact ih0 _ _ _ _
   | exact spec_l6Plan.mono _ _ _ _
   | exact LeO.none _
   | refine LeO.ite ?_ ?_
   | refine LeO.bind ?_ (fun _=>?_)
set_option maxHeartbeats 8000000 in
set_option maxRecDepth 100000 in
theorem spec_l6Any.calls (k : Nat) (g : Nat) (s0_0 : List Int) (s0_1 : Int) (s0_2 : Int) (r1 : List (S119)) (r2 : Int) (r3 : Int) (w0 w : World) (hI : J155 w0 w g s0_0 s0_1 s0_2) (hB : Below w0.heap.size w0 w) (h : spec_l6Any.f k s0_0 s0_1 s0_2 = some (r1,r2,r3)) :
  Calls Try.prog 106 #[.pointer (some ⟨g,0,none⟩)] w fun e w'=>∃ v0_ : Value,e = .returned (v0_) ∧ Kd.R k119 119 w' w.heap.size (fun _=>True) v0_ r1 ∧ J155 w0 w' g s0_0 r2 r3 ∧ Below w0.heap.size w0 w' ∧ KeepBut w w' g none:=by
 have hu119:=Try.underlying119
 have HI0:=aM_ hI
 have HK:=aM_ (KeepBut.refl w g none)
 have HL:=aM_ hB.size
 clear hI
 have HW0:=aM_ hB.size
 have HB:=aM_ hB
 clear hB
 have H : ((spec_l6Plan.f k s0_0 s0_1 s0_2).bind fun bt565=>((spec_l1Below.f s0_0 bt565.2.1 bt565.2.2 12).bind fun bt570=>(if bt570.1 = 0 then ((spec_l5Any.f s0_0 bt570.2.1 bt570.2.2).bind fun bt573=>(if 0 < (bt565.1.length : Int) then (some ((bt565.1.set (0 : Int).toNat (⟨bt573.1,bt573.2.1,bt573.2.2.1,bt573.2.2.2.1⟩ : S119)),bt573.2.2.2.2.1,bt573.2.2.2.2.2)) else (none))) else (if bt570.1 = 1 then (spec_l6Any.l0 k bt565.1 s0_0 bt570.2.1 bt570.2.2) else (some (bt565.1,bt570.2.1,bt570.2.2)))))) = some (r1,r2,r3):=h
 clear h
 replace H:=oB_ H
 obtain ⟨⟨t565,t568,t569⟩,A20,H⟩:=H
 replace H : ((spec_l1Below.f s0_0 t568 t569 12).bind fun bt570=>(if bt570.1 = 0 then ((spec_l5Any.f s0_0 bt570.2.1 bt570.2.2).bind fun bt573=>(if 0 < (t565.length : Int) then (some ((t565.set (0 : Int).toNat (⟨bt573.1,bt573.2.1,bt573.2.2.1,bt573.2.2.2.1⟩ : S119)),bt573.2.2.2.2.1,bt573.2.2.2.2.2)) else (none))) else (if bt570.1 = 1 then (spec_l6Any.l0 k t565 s0_0 bt570.2.1 bt570.2.2) else (some (t565,bt570.2.1,bt570.2.2))))) = some (r1,r2,r3):=H
 have A2:=aM_ A20
 clear A20
 replace H:=oB_ H
 obtain ⟨⟨t570,t571,t572⟩,A30,H⟩:=H
 replace H : (if t570 = 0 then ((spec_l5Any.f s0_0 t571 t572).bind fun bt573=>(if 0 < (t565.length : Int) then (some ((t565.set (0 : Int).toNat (⟨bt573.1,bt573.2.1,bt573.2.2.1,bt573.2.2.2.1⟩ : S119)),bt573.2.2.2.2.1,bt573.2.2.2.2.2)) else (none))) else (if t570 = 1 then (spec_l6Any.l0 k t565 s0_0 t571 t572) else (some (t565,t571,t572)))) = some (r1,r2,r3):=H
 have A3:=aM_ A30
 clear A30
 by_cases c4 : t570 = 0
 ·rw [if_pos c4] at H
  have c4b0 : (t570 == 0) = true:=beq_iff_eq.mpr c4
  have c4b1 : (t570 != 0) = false:=bne_eq_false_iff_eq.mpr c4
  clear c4
  replace H:=oB_ H
  obtain ⟨⟨t573,t574,t575,t576,t577,t578⟩,A50,H⟩:=H
  replace H : (if 0 < (t565.length : Int) then (some ((t565.set (0 : Int).toNat (⟨t573,t574,t575,t576⟩ : S119)),t577,t578)) else (none)) = some (r1,r2,r3):=H
  have A5:=aM_ A50
  clear A50
  by_cases c6 : 0 < (t565.length : Int)
  ·rw [if_pos c6] at H
   have c6b0 : decide (0 < (t565.length : Int)) = true:=decide_eq_true c6
   have c6b1 : decide (0 < t565.length) = true:=decide_eq_true (by omega)
   clear c6
   obtain ⟨y579,hy579⟩ : ∃ y_ : List (S119),y_ = (t565.set (0 : Int).toNat (⟨t573,t574,t575,t576⟩ : S119)):=⟨_,rfl⟩
   replace H : (some (y579,t577,t578)) = some (r1,r2,r3):=by first | (rw [hy579];with_reducible exact H) | (have H2_:=(Option.bind_some _ _).symm.trans H;rw [hy579];with_reducible exact H2_) | (have H2_:=(Option.bind_some _ _).symm.trans H;with_reducible exact H2_) | with_reducible exact H | (rw [hy579];exact H) | exact H
   have Ny579:=aM_ hy579
   clear hy579
   simp only [Option.some.injEq,Prod.mk.injEq] at H
   obtain ⟨rfl,rfl,rfl⟩:=H
   go_enter Try.func106,Try.ntmps106
   go_wp2_with (first | ((with_reducible refine gate_callee (f:=153) rfl ?_);refine goesL_ (some 5) rfl rfl Try.func153 (by kernel_rfl) rfl #[.pointer (some ⟨g,0,none⟩)] rfl (by (try simp only [mA_,mC_,mN_]);first | done | rfl | (simp only [lD_,lT_];rfl)) ?_;(with_reducible refine (spec_l6Plan.calls k g s0_0 s0_1 s0_2 t565 t568 t569 w0 _ ?side1 ?side2 A2.out).mono ?_);(case side1=>repeat first | exact J155.z HI0 | apply J155.set_1 | apply J155.set_2 | refine J155.y ?_);(case side2=>have e0_:=aM_ (J155.ge HI0.out);exact bZ_ HB);rintro e w8 ⟨v566,rfl,ho0,hi,hb,hk⟩;refine ⟨_,rfl,?_⟩;have n0_:=aM_ (Kd.R_lower ho0 (keep_size (w:=w) (g:=g) (row:=none) (by exact eZ_ HK)));have n1_:=aM_ (KeepBut.trans (by exact eZ_ HK) hk (.inl rfl));have n2_:=aM_ (hb);have n3_:=aM_ (hi);clear HK;clear HB;clear HI0;have HO567:=n0_;have HK:=n1_;have HB:=n2_;have HI0:=n3_;clear n0_ n1_ n2_ n3_;(try clear hb);(try clear hb2);(try clear hk);(try clear hi);(try clear ho0)) | ((with_reducible refine gate_callee (f:=125) rfl ?_);refine goesL_ (some 7) rfl rfl Try.func125 (by kernel_rfl) rfl #[.pointer (some ⟨g,0,none⟩),.int .i64 12] rfl (by (try simp only [mA_,mC_,mN_]);first | done | rfl | (simp only [lD_,lT_];rfl)) ?_;(with_reducible refine (spec_l1Below.calls g s0_0 t568 t569 12 t570 t571 t572 w0 _ ?side1 ?side2 A3.out).mono ?_);(case side1=>repeat first | exact J155.z HI0 | apply J155.set_1 | apply J155.set_2 | refine J155.y ?_);(case side2=>have e0_:=aM_ (J155.ge HI0.out);exact bZ_ HB);rintro e w9 ⟨rfl,hi,hb,hk⟩;refine ⟨_,rfl,?_⟩;have n0_:=aM_ (Kd.R_mono (Kd.R_keep (J155.apart (show J155 w0 _ g s0_0 t568 t569 from by repeat first | exact J155.z HI0 | apply J155.set_1 | apply J155.set_2 | refine J155.y ?_) (by exact rZ_ HO567) (by decide)) hk (fun _ h=>h.2)) (fun _ h=>h.1));have n1_:=aM_ (KeepBut.trans (by exact eZ_ HK) hk (.inl rfl));have n2_:=aM_ (hb);have n3_:=aM_ (hi);clear HO567;clear HK;clear HB;clear HI0;have HO567:=n0_;have HK:=n1_;have HB:=n2_;have HI0:=n3_;clear n0_ n1_ n2_ n3_;(try clear hb);(try clear hb2);(try clear hk);(try clear hi)) | ((with_reducible refine gate_callee (f:=154) rfl ?_);refine goesL_ (some 12) rfl rfl Try.func154 (by kernel_rfl) rfl #[.pointer (some ⟨g,0,none⟩)] rfl (by (try simp only [mA_,mC_,mN_]);first | done | rfl | (simp only [lD_,lT_];rfl)) ?_;(with_reducible refine (spec_l5Any.calls g s0_0 t571 t572 t573 t574 t575 t576 t577 t578 w0 _ ?side1 ?side2 A5.out).mono ?_);(case side1=>repeat first | exact J155.z HI0 | apply J155.set_1 | apply J155.set_2 | refine J155.y ?_);(case side2=>have e0_:=aM_ (J155.ge HI0.out);exact bZ_ HB);rintro e w10 ⟨rfl,hi,hb,hk⟩;refine ⟨_,rfl,?_⟩;have n0_:=aM_ (Kd.R_mono (Kd.R_keep (J155.apart (show J155 w0 _ g s0_0 t571 t572 from by repeat first | exact J155.z HI0 | apply J155.set_1 | apply J155.set_2 | refine J155.y ?_) (by exact rZ_ HO567) (by decide)) hk (fun _ h=>h.2)) (fun _ h=>h.1));have n1_:=aM_ (KeepBut.trans (by exact eZ_ HK) hk (.inl rfl));have n2_:=aM_ (hb);have n3_:=aM_ (hi);clear HO567;clear HK;clear HB;clear HI0;have HO567:=n0_;have HK:=n1_;have HB:=n2_;have HI0:=n3_;clear n0_ n1_ n2_ n3_;(try clear hb);(try clear hb2);(try clear hk);(try clear hi);have p7 : 0 ≤ (0 : Int):=(by omega);have q7 : (0 : Int) < ((t565.length : Int) : Int):=oT_ (by first | (with_reducible assumption) | assumption);have qi7 : (0 < t565.length) = True:=eq_true (by omega);obtain ⟨go7,co7,eo7,gb7,gl7,cl7,HG7⟩:=Kd.R_form HO567.out (by omega);(first | cases eo7 | (injection eo7 with ea_ en_ ec_;(first | subst ea_ | (injection ea_ with ea_;subst ea_));subst ec_;clear en_));have GB7:=aM_ gb7;have GG7:=aM_ HG7;clear gb7 gl7 HG7;obtain ⟨ce7,hcl7,hM7,hcc7,hfr7⟩:=Kd.R_elem HO567.out z119 (0 : Int) p7 q7;obtain rfl:=k119_openM hM7;have hx7_0 : w10.cell? ⟨go7,(0 : Int).toNat * 4,none⟩ = some (.int .i64 ((rd_T119 t565 0).f0)):=hcc7 0 _ rfl;have hx7_1 : w10.cell? ⟨go7,(0 : Int).toNat * 4 + 1,none⟩ = some (.int .i64 ((rd_T119 t565 0).f1)):=hcc7 1 _ rfl;have hx7_2 : w10.cell? ⟨go7,(0 : Int).toNat * 4 + 2,none⟩ = some (.bool ((rd_T119 t565 0).f2)):=hcc7 2 _ rfl;have hx7_3 : w10.cell? ⟨go7,(0 : Int).toNat * 4 + 3,none⟩ = some (.bool ((rd_T119 t565 0).f3)):=hcc7 3 _ rfl;have hf7_0 : w10.frozen? ⟨go7,(0 : Int).toNat * 4,none⟩ = false:=hfr7 0;have hf7_1 : w10.frozen? ⟨go7,(0 : Int).toNat * 4 + 1,none⟩ = false:=hfr7 1;have hf7_2 : w10.frozen? ⟨go7,(0 : Int).toNat * 4 + 2,none⟩ = false:=hfr7 2;have hf7_3 : w10.frozen? ⟨go7,(0 : Int).toNat * 4 + 3,none⟩ = false:=hfr7 3;(try clear hM7);clear hcl7 hcc7 hfr7;(try rw [show ((0 : Int)).toNat = 0 from rfl] at hx7_0);(try simp only [Nat.reduceMul,Nat.zero_mul,Nat.zero_add,Nat.reduceAdd] at hx7_0);(try rw [show ((0 : Int)).toNat = 0 from rfl] at hf7_0);(try simp only [Nat.reduceMul,Nat.zero_mul,Nat.zero_add,Nat.reduceAdd] at hf7_0);(try rw [show ((0 : Int)).toNat = 0 from rfl] at hx7_1);(try simp only [Nat.reduceMul,Nat.zero_mul,Nat.zero_add,Nat.reduceAdd] at hx7_1);(try rw [show ((0 : Int)).toNat = 0 from rfl] at hf7_1);(try simp only [Nat.reduceMul,Nat.zero_mul,Nat.zero_add,Nat.reduceAdd] at hf7_1);(try rw [show ((0 : Int)).toNat = 0 from rfl] at hx7_2);(try simp only [Nat.reduceMul,Nat.zero_mul,Nat.zero_add,Nat.reduceAdd] at hx7_2);(try rw [show ((0 : Int)).toNat = 0 from rfl] at hf7_2);(try simp only [Nat.reduceMul,Nat.zero_mul,Nat.zero_add,Nat.reduceAdd] at hf7_2);(try rw [show ((0 : Int)).toNat = 0 from rfl] at hx7_3);(try simp only [Nat.reduceMul,Nat.zero_mul,Nat.zero_add,Nat.reduceAdd] at hx7_3);(try rw [show ((0 : Int)).toNat = 0 from rfl] at hf7_3);(try simp only [Nat.reduceMul,Nat.zero_mul,Nat.zero_add,Nat.reduceAdd] at hf7_3);replace p7:=eq_true p7;replace q7:=eq_true q7;have HX11:=aM_ (show Kd.R k119 119 w10 w.heap.size (fun _=>True) (.slice (some ⟨go7,0,none⟩) t565.length co7) t565 from (by exact rZ_ HO567));obtain ⟨ce11,hcl11,hM11,hcc11,hfr11⟩:=Kd.R_elem HX11.out z119 (0 : Int) (by omega) (by have h_ : (0 : Int) < ((t565.length : Int) : Int):=oT_ (by first | (with_reducible assumption) | assumption);first | exact h_ | (have e_:=(Kd.R_reads' HO567.out).1;omega) | simpa using h_);obtain rfl:=k119_openM hM11;have HP11:=Kd.R_seg HX11.out (0 : Int) (by omega) (by have h_ : (0 : Int) < ((t565.length : Int) : Int):=oT_ (by first | (with_reducible assumption) | assumption);first | exact h_ | (have e_:=(Kd.R_reads' HO567.out).1;omega) | simpa using h_) (seg:=[.int .i64 t573,.int .i64 t574,.bool t575,.bool t576]) (j:=0) hcl11 hcc11 (show 4 ≤ 4 from by decide) (x':=(⟨t573,t574,t575,t576⟩ : S119)) (k119_mkM _ _ _ (⟨t573,t574,t575,t576⟩ : S119) ) (fun _ hk=>hk);have hx11_0:=hcc11 0 _ rfl;(try simp only [show (k119).sz = 4 from rfl,Nat.mul_one,Nat.add_zero] at hx11_0);(try rw [show ((0 : Int)).toNat = 0 from rfl] at hx11_0);(try simp only [Nat.reduceMul,Nat.zero_mul,Nat.zero_add,Nat.reduceAdd] at hx11_0);have hf11_0:=hfr11 0;(try simp only [show (k119).sz = 4 from rfl,Nat.mul_one,Nat.add_zero] at hf11_0);(try rw [show ((0 : Int)).toNat = 0 from rfl] at hf11_0);(try simp only [Nat.reduceMul,Nat.zero_mul,Nat.zero_add,Nat.reduceAdd] at hf11_0);have hx11_1:=hcc11 1 _ rfl;(try simp only [show (k119).sz = 4 from rfl,Nat.mul_one,Nat.add_zero] at hx11_1);(try rw [show ((0 : Int)).toNat = 0 from rfl] at hx11_1);(try simp only [Nat.reduceMul,Nat.zero_mul,Nat.zero_add,Nat.reduceAdd] at hx11_1);have hf11_1:=hfr11 1;(try simp only [show (k119).sz = 4 from rfl,Nat.mul_one,Nat.add_zero] at hf11_1);(try rw [show ((0 : Int)).toNat = 0 from rfl] at hf11_1);(try simp only [Nat.reduceMul,Nat.zero_mul,Nat.zero_add,Nat.reduceAdd] at hf11_1);have hx11_2:=hcc11 2 _ rfl;(try simp only [show (k119).sz = 4 from rfl,Nat.mul_one,Nat.add_zero] at hx11_2);(try rw [show ((0 : Int)).toNat = 0 from rfl] at hx11_2);(try simp only [Nat.reduceMul,Nat.zero_mul,Nat.zero_add,Nat.reduceAdd] at hx11_2);have hf11_2:=hfr11 2;(try simp only [show (k119).sz = 4 from rfl,Nat.mul_one,Nat.add_zero] at hf11_2);(try rw [show ((0 : Int)).toNat = 0 from rfl] at hf11_2);(try simp only [Nat.reduceMul,Nat.zero_mul,Nat.zero_add,Nat.reduceAdd] at hf11_2);have hx11_3:=hcc11 3 _ rfl;(try simp only [show (k119).sz = 4 from rfl,Nat.mul_one,Nat.add_zero] at hx11_3);(try rw [show ((0 : Int)).toNat = 0 from rfl] at hx11_3);(try simp only [Nat.reduceMul,Nat.zero_mul,Nat.zero_add,Nat.reduceAdd] at hx11_3);have hf11_3:=hfr11 3;(try simp only [show (k119).sz = 4 from rfl,Nat.mul_one,Nat.add_zero] at hf11_3);(try rw [show ((0 : Int)).toNat = 0 from rfl] at hf11_3);(try simp only [Nat.reduceMul,Nat.zero_mul,Nat.zero_add,Nat.reduceAdd] at hf11_3);(try clear hM11);clear hcl11 hcc11 hfr11) | ((with_reducible refine gate_store (t:=119) (p:=13) rfl ?_);refine store_event (t:=119) (p:=13) (v:=?vo_w12) (w1:=((((w10.setCell ⟨go7,0,none⟩ (.int .i64 t573)).setCell ⟨go7,1,none⟩ (.int .i64 t574)).setCell ⟨go7,2,none⟩ (.bool t575)).setCell ⟨go7,3,none⟩ (.bool t576))) ?hg ?ho ?hn ?hr ?_;(case ho=>rfl);(case hg=>rfl);(case hn=>rfl);(case hr=>first | (go_simp;done) | (go_simp;rfl));intro w12 hw;have hg : w10.grownBy w12 (some go7):=(by rw [hw];exact HP11.2);have hp_ : Kd.R k119 119 w12 w.heap.size (fun _=>True) (.slice (some ⟨go7,0,none⟩) t565.length co7) y579:=(by rw [hw,Ny579.out];exact HP11.1);clear HP11;have n0_:=aM_ (J155.grown (by repeat first | exact J155.z HI0 | apply J155.set_1 | apply J155.set_2 | refine J155.y ?_) hg (J155.own_ne HI0.out HO567.out (by decide)));have n1_:=aM_ (hp_);have n2_:=aM_ ((by rw [hw];exact bE_ (bE_ (bE_ (bE_ (HB.out) (Nat.le_trans HL.out GB7.out)) (Nat.le_trans HL.out GB7.out)) (Nat.le_trans HL.out GB7.out)) (Nat.le_trans HL.out GB7.out) : Below w0.heap.size w0 w12));have n3_:=aM_ (KeepBut.trans (by exact eZ_ HK) (KeepBut.of_grown hg g) (Kd.R_base2 HO567.out));clear HI0;clear HO567;clear HB;clear HK;have HI0:=n0_;have HO567:=n1_;have HB:=n2_;have HK:=n3_;clear n0_ n1_ n2_ n3_;clear hg hw hp_))
   go_ret
   exact ⟨_,by first | rfl | (simp [errW_none,errW_some] <;> rfl) | (simp [*, errW_none,errW_some] <;> rfl),by exact rZ_ HO567,by repeat first | exact J155.z HI0 | apply J155.set_1 | apply J155.set_2 | refine J155.y ?_,by have e0_:=aM_ (J155.ge HI0.out);exact bZ_ HB,by exact eZ_ HK⟩
  ·rw [if_neg c6] at H
   exact absurd H (by simp)
 ·rw [if_neg c4] at H
  have c4b0 : (t570 == 0) = false:=beq_eq_false_iff_ne.mpr c4
  have c4b1 : (t570 != 0) = true:=bne_iff_ne.mpr c4
  by_cases c13 : t570 = 1
  ·rw [if_pos c13] at H
   have c13b0 : (t570 == 1) = true:=beq_iff_eq.mpr c13
   have c13b1 : (t570 != 1) = false:=bne_eq_false_iff_eq.mpr c13
   clear c13
   have H':=aM_ H
   clear H
   go_enter Try.func106,Try.ntmps106
   go_wp2_with (first | ((with_reducible refine gate_callee (f:=153) rfl ?_);refine goesL_ (some 5) rfl rfl Try.func153 (by kernel_rfl) rfl #[.pointer (some ⟨g,0,none⟩)] rfl (by (try simp only [mA_,mC_,mN_]);first | done | rfl | (simp only [lD_,lT_];rfl)) ?_;(with_reducible refine (spec_l6Plan.calls k g s0_0 s0_1 s0_2 t565 t568 t569 w0 _ ?side1 ?side2 A2.out).mono ?_);(case side1=>repeat first | exact J155.z HI0 | apply J155.set_1 | apply J155.set_2 | refine J155.y ?_);(case side2=>have e0_:=aM_ (J155.ge HI0.out);exact bZ_ HB);rintro e w14 ⟨v566,rfl,ho0,hi,hb,hk⟩;refine ⟨_,rfl,?_⟩;have n0_:=aM_ (Kd.R_lower ho0 (keep_size (w:=w) (g:=g) (row:=none) (by exact eZ_ HK)));have n1_:=aM_ (KeepBut.trans (by exact eZ_ HK) hk (.inl rfl));have n2_:=aM_ (hb);have n3_:=aM_ (hi);clear HK;clear HB;clear HI0;have HO567:=n0_;have HK:=n1_;have HB:=n2_;have HI0:=n3_;clear n0_ n1_ n2_ n3_;(try clear hb);(try clear hb2);(try clear hk);(try clear hi);(try clear ho0)) | ((with_reducible refine gate_callee (f:=125) rfl ?_);refine goesL_ (some 7) rfl rfl Try.func125 (by kernel_rfl) rfl #[.pointer (some ⟨g,0,none⟩),.int .i64 12] rfl (by (try simp only [mA_,mC_,mN_]);first | done | rfl | (simp only [lD_,lT_];rfl)) ?_;(with_reducible refine (spec_l1Below.calls g s0_0 t568 t569 12 t570 t571 t572 w0 _ ?side1 ?side2 A3.out).mono ?_);(case side1=>repeat first | exact J155.z HI0 | apply J155.set_1 | apply J155.set_2 | refine J155.y ?_);(case side2=>have e0_:=aM_ (J155.ge HI0.out);exact bZ_ HB);rintro e w15 ⟨rfl,hi,hb,hk⟩;refine ⟨_,rfl,?_⟩;have n0_:=aM_ (Kd.R_mono (Kd.R_keep (J155.apart (show J155 w0 _ g s0_0 t568 t569 from by repeat first | exact J155.z HI0 | apply J155.set_1 | apply J155.set_2 | refine J155.y ?_) (by exact rZ_ HO567) (by decide)) hk (fun _ h=>h.2)) (fun _ h=>h.1));have n1_:=aM_ (KeepBut.trans (by exact eZ_ HK) hk (.inl rfl));have n2_:=aM_ (hb);have n3_:=aM_ (hi);clear HO567;clear HK;clear HB;clear HI0;have HO567:=n0_;have HK:=n1_;have HB:=n2_;have HI0:=n3_;clear n0_ n1_ n2_ n3_;(try clear hb);(try clear hb2);(try clear hk);(try clear hi)))
   (try simp only [Act.put,sI_,sS_,sZ_])
   go_loopg [3] k (fun kq v3 w'=>∃ (x3_1 : List (S119)) (x1001_1 : Int) (x1002_1 : Int),Aside0 (spec_l6Any.l0 kq x3_1 s0_0 x1001_1 x1002_1 = some (r1,r2,r3)) ∧ Aside0 (kq ≤ k) ∧ Aside0 (Kd.R k119 119 w' w.heap.size (fun _=>True) v3 x3_1) ∧ Aside0 (J155 w0 w' g s0_0 x1001_1 x1002_1) ∧ Aside0 (KeepBut w w' g none) ∧ Aside0 (Below w0.heap.size w0 w'))
   case atStart=>exact ⟨(t565),(t571),(t572),H', ⟨Nat.le_refl _⟩,⟨by exact rZ_ HO567⟩,⟨by repeat first | exact J155.z HI0 | apply J155.set_1 | apply J155.set_2 | refine J155.y ?_⟩,⟨by exact eZ_ HK⟩,⟨by have e0_:=aM_ (J155.ge HI0.out);exact bZ_ HB⟩⟩
   case round =>
    clear H'
    try clear c1
    try clear hx1
    try clear hf1
    try clear p2
    try clear c4
    try clear c4b0
    try clear c4b1
    try clear c6
    try clear c6b0
    try clear c6b1
    try clear c7
    try clear p7
    try clear q7
    try clear hx7
    try clear qi7
    try clear hf7
    try clear c10
    try clear c11
    try clear hx11
    try clear hf11
    try clear c12
    try clear c13
    try clear c13b0
    try clear c13b1
    try clear c15
    try clear hx11_0
    try clear hx11_1
    try clear hx11_2
    try clear hx11_3
    try clear hx7_0
    try clear hx7_1
    try clear hx7_2
    try clear hx7_3
    try clear p7
    try clear q7
    obtain ⟨x3_1,x1001_1,x1002_1,HA,HK1,HO_3,HI0,HK,HB⟩:=hrel
    cases gk with
    | zero=>exact absurd HA.out (by simp [spec_l6Any.l0])
    | succ k1 =>
     have H:=HA.out
     clear HA
     simp only [spec_l6Any.l0] at H
     replace H:=oB_ H
     obtain ⟨⟨t580,t581,t582⟩,A160,H⟩:=H
     replace H : (if (x3_1.length : Int) < (wrap64 (6 + t580)) then ((spec_l5Draw.f s0_0 t581 t582 0).bind fun bt583=>(if x3_1.length < 5864062014805 then (spec_l6Any.l0 k1 (x3_1 ++ [(⟨bt583.1,bt583.2.1,bt583.2.2.1,bt583.2.2.2.1⟩ : S119)]) s0_0 bt583.2.2.2.2.1 bt583.2.2.2.2.2) else (none))) else (some (x3_1,t581,t582))) = some (r1,r2,r3):=H
     have A16:=aM_ A160
     clear A160
     by_cases c17 : (x3_1.length : Int) < (wrap64 (6 + t580))
     ·rw [if_pos c17] at H
      have c17b0 : decide ((x3_1.length : Int) < (wrap64 (6 + t580))) = true:=decide_eq_true c17
      clear c17
      replace H:=oB_ H
      obtain ⟨⟨t583,t584,t585,t586,t587,t588⟩,A180,H⟩:=H
      replace H : (if x3_1.length < 5864062014805 then (spec_l6Any.l0 k1 (x3_1 ++ [(⟨t583,t584,t585,t586⟩ : S119)]) s0_0 t587 t588) else (none)) = some (r1,r2,r3):=H
      have A18:=aM_ A180
      clear A180
      by_cases c19 : x3_1.length < 5864062014805
      ·rw [if_pos c19] at H
       have LMc19:=aM_ c19
       clear c19
       obtain ⟨y589,hy589⟩ : ∃ y_ : List (S119),y_ = (x3_1 ++ [(⟨t583,t584,t585,t586⟩ : S119)]):=⟨_,rfl⟩
       replace H : (spec_l6Any.l0 k1 y589 s0_0 t587 t588) = some (r1,r2,r3):=by first | (rw [hy589];with_reducible exact H) | (have H2_:=(Option.bind_some _ _).symm.trans H;rw [hy589];with_reducible exact H2_) | (have H2_:=(Option.bind_some _ _).symm.trans H;with_reducible exact H2_) | with_reducible exact H | (rw [hy589];exact H) | exact H
       have Ny589:=aM_ hy589
       clear hy589
       have H':=aM_ H
       clear H
       obtain ⟨Ao20,co20,eo20⟩:=Kd.R_slice HO_3.out
       subst eo20
       go_wp2_with (first | ((with_reducible refine gate_callee (f:=125) rfl ?_);refine goesL_ (some 19) rfl rfl Try.func125 (by kernel_rfl) rfl #[.pointer (some ⟨g,0,none⟩),.int .i64 2] rfl (by (try simp only [mA_,mC_,mN_]);first | done | rfl | (simp only [lD_,lT_];rfl)) ?_;(with_reducible refine (spec_l1Below.calls g s0_0 x1001_1 x1002_1 2 t580 t581 t582 w0 _ ?side1 ?side2 A16.out).mono ?_);(case side1=>repeat first | exact J155.z HI0 | apply J155.set_1 | apply J155.set_2 | refine J155.y ?_);(case side2=>have e0_:=aM_ (J155.ge HI0.out);exact bZ_ HB);rintro e w21 ⟨rfl,hi,hb,hk⟩;refine ⟨_,rfl,?_⟩;have n0_:=aM_ (Kd.R_mono (Kd.R_keep (J155.apart (show J155 w0 _ g s0_0 x1001_1 x1002_1 from by repeat first | exact J155.z HI0 | apply J155.set_1 | apply J155.set_2 | refine J155.y ?_) (by exact rZ_ HO_3) (by decide)) hk (fun _ h=>h.2)) (fun _ h=>h.1));have n1_:=aM_ (KeepBut.trans (by exact eZ_ HK) hk (.inl rfl));have n2_:=aM_ (hb);have n3_:=aM_ (hi);clear HO_3;clear HK;clear HB;clear HI0;have HO_3:=n0_;have HK:=n1_;have HB:=n2_;have HI0:=n3_;clear n0_ n1_ n2_ n3_;(try clear hb);(try clear hb2);(try clear hk);(try clear hi)) | ((with_reducible refine gate_callee (f:=155) rfl ?_);refine goesL_ (some 24) rfl rfl Try.func155 (by kernel_rfl) rfl #[.pointer (some ⟨g,0,none⟩),.int .i64 0] rfl (by (try simp only [mA_,mC_,mN_]);first | done | rfl | (simp only [lD_,lT_];rfl)) ?_;(with_reducible refine (spec_l5Draw.calls g s0_0 t581 t582 0 t583 t584 t585 t586 t587 t588 w0 _ ?side1 ?side2 A18.out).mono ?_);(case side1=>repeat first | exact J155.z HI0 | apply J155.set_1 | apply J155.set_2 | refine J155.y ?_);(case side2=>have e0_:=aM_ (J155.ge HI0.out);exact bZ_ HB);rintro e w22 ⟨rfl,hi,hb,hk⟩;refine ⟨_,rfl,?_⟩;have n0_:=aM_ (Kd.R_mono (Kd.R_keep (J155.apart (show J155 w0 _ g s0_0 t581 t582 from by repeat first | exact J155.z HI0 | apply J155.set_1 | apply J155.set_2 | refine J155.y ?_) (by exact rZ_ HO_3) (by decide)) hk (fun _ h=>h.2)) (fun _ h=>h.1));have n1_:=aM_ (KeepBut.trans (by exact eZ_ HK) hk (.inl rfl));have n2_:=aM_ (hb);have n3_:=aM_ (hi);clear HO_3;clear HK;clear HB;clear HI0;have HO_3:=n0_;have HK:=n1_;have HB:=n2_;have HI0:=n3_;clear n0_ n1_ n2_ n3_;(try clear hb);(try clear hb2);(try clear hk);(try clear hi)) | ((with_reducible refine gate_builtin (b:=.append) (xs:=#[.tmp 22,.tmp 25]) rfl ?_);at_builtin;refine Kd.R_append k119 w.heap.size rfl (.tmp 22) (.tmp 25) 48 119 (.agg #[(.int .i64 0),(.int .i64 0),(.bool false),(.bool false)]) 24 rfl Try.underlying48 info119 rfl (by decide) (by omega) (.slice Ao20 x3_1.length co20) x3_1 (⟨t583,t584,t585,t586⟩ : S119) [.int .i64 t583,.int .i64 t584,.bool t585,.bool t586] (fun _=>True) (fun _=>False) rfl rfl ?aP (fun _ hk=>hk.elim) ?aF ?aO (Below.refl _ _) ?aS ?aL ?_;(case aP=>exact k119_mkM _ _ _ (⟨t583,t584,t585,t586⟩ : S119));(case aF=>exact (fun _ _=>trivial));(case aO=>exact (by exact rZ_ HO_3));(case aS=>exact (keep_size (w:=w) (g:=g) (row:=none) (by exact eZ_ HK)));(case aL=>have:=LMc19.out;omega);intro v590 w23 ho hb hg hat;rw [← Ny589.out] at ho;have n0_:=aM_ (J155.grown (by repeat first | exact J155.z HI0 | apply J155.set_1 | apply J155.set_2 | refine J155.y ?_) hg (J155.own_ne HI0.out HO_3.out (by decide)));have n1_:=aM_ (below_weaken (by have e0_:=aM_ (J155.ge HI0.out);exact bZ_ HB) HL.out hb);have n2_:=aM_ (KeepBut.trans (by exact eZ_ HK) (KeepBut.of_grown hg g) (Kd.R_base2 HO_3.out));have n3_:=aM_ (ho);clear HI0;clear HB;clear HK;clear HO_3;have HI0:=n0_;have HB:=n1_;have HK:=n2_;have HO591:=n3_;clear n0_ n1_ n2_ n3_;clear ho hb hg hat))
       go_roundg k1
       case measure=>have:=HK1.out;omega
       case rel=>exact ⟨(y589),(t587),(t588),H', ⟨by have:=HK1.out;omega⟩,⟨by exact rZ_ HO591⟩,⟨by repeat first | exact J155.z HI0 | apply J155.set_1 | apply J155.set_2 | refine J155.y ?_⟩,⟨by exact eZ_ HK⟩,⟨by have e0_:=aM_ (J155.ge HI0.out);exact bZ_ HB⟩⟩
      ·rw [if_neg c19] at H
       exact absurd H (by simp)
     ·rw [if_neg c17] at H
      have c17b0 : decide ((x3_1.length : Int) < (wrap64 (6 + t580))) = false:=decide_eq_false c17
      clear c17
      simp only [Option.some.injEq,Prod.mk.injEq] at H
      obtain ⟨rfl,rfl,rfl⟩:=H
      obtain ⟨Ao24,co24,eo24⟩:=Kd.R_slice HO_3.out
      subst eo24
      go_wp2_with (first | ((with_reducible refine gate_callee (f:=125) rfl ?_);refine goesL_ (some 19) rfl rfl Try.func125 (by kernel_rfl) rfl #[.pointer (some ⟨g,0,none⟩),.int .i64 2] rfl (by (try simp only [mA_,mC_,mN_]);first | done | rfl | (simp only [lD_,lT_];rfl)) ?_;(with_reducible refine (spec_l1Below.calls g s0_0 x1001_1 x1002_1 2 t580 t581 t582 w0 _ ?side1 ?side2 A16.out).mono ?_);(case side1=>repeat first | exact J155.z HI0 | apply J155.set_1 | apply J155.set_2 | refine J155.y ?_);(case side2=>have e0_:=aM_ (J155.ge HI0.out);exact bZ_ HB);rintro e w25 ⟨rfl,hi,hb,hk⟩;refine ⟨_,rfl,?_⟩;have n0_:=aM_ (Kd.R_mono (Kd.R_keep (J155.apart (show J155 w0 _ g s0_0 x1001_1 x1002_1 from by repeat first | exact J155.z HI0 | apply J155.set_1 | apply J155.set_2 | refine J155.y ?_) (by exact rZ_ HO_3) (by decide)) hk (fun _ h=>h.2)) (fun _ h=>h.1));have n1_:=aM_ (KeepBut.trans (by exact eZ_ HK) hk (.inl rfl));have n2_:=aM_ (hb);have n3_:=aM_ (hi);clear HO_3;clear HK;clear HB;clear HI0;have HO_3:=n0_;have HK:=n1_;have HB:=n2_;have HI0:=n3_;clear n0_ n1_ n2_ n3_;(try clear hb);(try clear hb2);(try clear hk);(try clear hi)))
      go_ret
      exact ⟨_,by first | rfl | (simp [errW_none,errW_some] <;> rfl) | (simp [*, errW_none,errW_some] <;> rfl),by exact rZ_ HO_3,by repeat first | exact J155.z HI0 | apply J155.set_1 | apply J155.set_2 | refine J155.y ?_,by have e0_:=aM_ (J155.ge HI0.out);exact bZ_ HB,by exact eZ_ HK⟩
  ·rw [if_neg c13] at H
   have c13b0 : (t570 == 1) = false:=beq_eq_false_iff_ne.mpr c13
   have c13b1 : (t570 != 1) = true:=bne_iff_ne.mpr c13
   simp only [Option.some.injEq,Prod.mk.injEq] at H
   obtain ⟨rfl,rfl,rfl⟩:=H
   go_enter Try.func106,Try.ntmps106
   go_wp2_with (first | ((with_reducible refine gate_callee (f:=153) rfl ?_);refine goesL_ (some 5) rfl rfl Try.func153 (by kernel_rfl) rfl #[.pointer (some ⟨g,0,none⟩)] rfl (by (try simp only [mA_,mC_,mN_]);first | done | rfl | (simp only [lD_,lT_];rfl)) ?_;(with_reducible refine (spec_l6Plan.calls k g s0_0 s0_1 s0_2 t565 t568 t569 w0 _ ?side1 ?side2 A2.out).mono ?_);(case side1=>repeat first | exact J155.z HI0 | apply J155.set_1 | apply J155.set_2 | refine J155.y ?_);(case side2=>have e0_:=aM_ (J155.ge HI0.out);exact bZ_ HB);rintro e w26 ⟨v566,rfl,ho0,hi,hb,hk⟩;refine ⟨_,rfl,?_⟩;have n0_:=aM_ (Kd.R_lower ho0 (keep_size (w:=w) (g:=g) (row:=none) (by exact eZ_ HK)));have n1_:=aM_ (KeepBut.trans (by exact eZ_ HK) hk (.inl rfl));have n2_:=aM_ (hb);have n3_:=aM_ (hi);clear HK;clear HB;clear HI0;have HO567:=n0_;have HK:=n1_;have HB:=n2_;have HI0:=n3_;clear n0_ n1_ n2_ n3_;(try clear hb);(try clear hb2);(try clear hk);(try clear hi);(try clear ho0)) | ((with_reducible refine gate_callee (f:=125) rfl ?_);refine goesL_ (some 7) rfl rfl Try.func125 (by kernel_rfl) rfl #[.pointer (some ⟨g,0,none⟩),.int .i64 12] rfl (by (try simp only [mA_,mC_,mN_]);first | done | rfl | (simp only [lD_,lT_];rfl)) ?_;(with_reducible refine (spec_l1Below.calls g s0_0 t568 t569 12 t570 t571 t572 w0 _ ?side1 ?side2 A3.out).mono ?_);(case side1=>repeat first | exact J155.z HI0 | apply J155.set_1 | apply J155.set_2 | refine J155.y ?_);(case side2=>have e0_:=aM_ (J155.ge HI0.out);exact bZ_ HB);rintro e w27 ⟨rfl,hi,hb,hk⟩;refine ⟨_,rfl,?_⟩;have n0_:=aM_ (Kd.R_mono (Kd.R_keep (J155.apart (show J155 w0 _ g s0_0 t568 t569 from by repeat first | exact J155.z HI0 | apply J155.set_1 | apply J155.set_2 | refine J155.y ?_) (by exact rZ_ HO567) (by decide)) hk (fun _ h=>h.2)) (fun _ h=>h.1));have n1_:=aM_ (KeepBut.trans (by exact eZ_ HK) hk (.inl rfl));have n2_:=aM_ (hb);have n3_:=aM_ (hi);clear HO567;clear HK;clear HB;clear HI0;have HO567:=n0_;have HK:=n1_;have HB:=n2_;have HI0:=n3_;clear n0_ n1_ n2_ n3_;(try clear hb);(try clear hb2);(try clear hk);(try clear hi)))
   go_ret
   exact ⟨_,by first | rfl | (simp [errW_none,errW_some] <;> rfl) | (simp [*, errW_none,errW_some] <;> rfl),by exact rZ_ HO567,by repeat first | exact J155.z HI0 | apply J155.set_1 | apply J155.set_2 | refine J155.y ?_,by have e0_:=aM_ (J155.ge HI0.out);exact bZ_ HB,by exact eZ_ HK⟩
def spec_l1Str.f (s0_0 : List Int) (s0_1 : Int) (s0_2 : Int) (l1 : List ByteArray) : Option (ByteArray × Int × Int):=(spec_l1Below.f s0_0 s0_1 s0_2 (l1.length : Int)).bind fun bt592=>(if 0 ≤ bt592.1 then (if bt592.1 < (l1.length : Int) then (some (rdOf ByteArray.empty l1 bt592.1,bt592.2.1,bt592.2.2)) else (none)) else (none))
set_option maxHeartbeats 8000000 in
set_option maxRecDepth 100000 in
theorem spec_l1Str.calls (g : Nat) (s0_0 : List Int) (s0_1 : Int) (s0_2 : Int) (A1 : Option Addr) (c1 : Nat) (l1 : List ByteArray) (r1 : ByteArray) (r2 : Int) (r3 : Int) (w0 w : World) (hI : J155 w0 w g s0_0 s0_1 s0_2) (hB : Below w0.heap.size w0 w) (hr1 : Kd.C Kd.string w A1 l1.length l1) (hc1 : l1.length ≤ c1) (hf1 : ∀ ad,A1 = some ad → 0 < l1.length → ad.block ≠ g) (h : spec_l1Str.f s0_0 s0_1 s0_2 l1 = some (r1,r2,r3)) :
  Calls Try.prog 124 #[.pointer (some ⟨g,0,none⟩),.slice A1 l1.length c1] w fun e w'=>e = .returned (.string r1) ∧ J155 w0 w' g s0_0 r2 r3 ∧ Below w0.heap.size w0 w' ∧ KeepBut w w' g none:=by
 have HR1:=aM_ hr1
 have HC1:=aM_ hc1
 clear hr1 hc1
 have HI0:=aM_ hI
 have HK:=aM_ (KeepBut.refl w g none)
 have HL:=aM_ hB.size
 clear hI
 have HW0:=aM_ hB.size
 have HB:=aM_ hB
 clear hB
 have H : ((spec_l1Below.f s0_0 s0_1 s0_2 (l1.length : Int)).bind fun bt592=>(if 0 ≤ bt592.1 then (if bt592.1 < (l1.length : Int) then (some (rdOf ByteArray.empty l1 bt592.1,bt592.2.1,bt592.2.2)) else (none)) else (none))) = some (r1,r2,r3):=h
 clear h
 replace H:=oB_ H
 obtain ⟨⟨t592,t593,t594⟩,A30,H⟩:=H
 replace H : (if 0 ≤ t592 then (if t592 < (l1.length : Int) then (some (rdOf ByteArray.empty l1 t592,t593,t594)) else (none)) else (none)) = some (r1,r2,r3):=H
 have A3:=aM_ A30
 clear A30
 by_cases c4 : 0 ≤ t592
 ·rw [if_pos c4] at H
  have c4b0 : decide (0 ≤ t592) = true:=decide_eq_true c4
  clear c4
  by_cases c5 : t592 < (l1.length : Int)
  ·rw [if_pos c5] at H
   have c5b0 : decide (t592 < (l1.length : Int)) = true:=decide_eq_true c5
   clear c5
   simp only [Option.some.injEq,Prod.mk.injEq] at H
   obtain ⟨rfl,rfl,rfl⟩:=H
   go_enter Try.func124,Try.ntmps124
   go_wp2_with (first | ((with_reducible refine gate_callee (f:=125) rfl ?_);refine goesL_ (some 9) rfl rfl Try.func125 (by kernel_rfl) rfl #[.pointer (some ⟨g,0,none⟩),.int .i64 (l1.length : Int)] rfl (by (try simp only [mA_,mC_,mN_]);first | done | rfl | (simp only [lD_,lT_];rfl)) ?_;(with_reducible refine (spec_l1Below.calls g s0_0 s0_1 s0_2 (l1.length : Int) t592 t593 t594 w0 _ ?side1 ?side2 A3.out).mono ?_);(case side1=>repeat first | exact J155.z HI0 | apply J155.set_1 | apply J155.set_2 | refine J155.y ?_);(case side2=>have e0_:=aM_ (J155.ge HI0.out);exact bZ_ HB);rintro e w6 ⟨rfl,hi,hb,hk⟩;refine ⟨_,rfl,?_⟩;have n0_:=aM_ (KeepBut.trans (by exact eZ_ HK) hk (.inl rfl));have n1_:=aM_ (hb);have n2_:=aM_ (hi);clear HK;clear HB;clear HI0;have HK:=n0_;have HB:=n1_;have HI0:=n2_;clear n0_ n1_ n2_;(try clear hb);(try clear hb2);(try clear hk);(try clear hi);have p595 : 0 ≤ (t592 : Int):=oT_ (by first | (with_reducible assumption) | assumption);have q595 : t592 < (l1.length : Int):=oT_ (by first | (with_reducible assumption) | assumption);obtain ⟨ad595,e595,hx595_0⟩:=Kd.at_string HR1.out t592 p595 q595;cases e595;replace hx595_0:=keep_cell HK.out hx595_0 (by first | (rw [add_block];exact hf1 _ rfl (by omega)) | exact hf1 _ rfl (by omega) | exact hf1 ad595 rfl (by omega));replace p595:=eq_true p595;replace q595:=eq_true q595))
   go_ret
   exact ⟨by first | rfl | (simp [errW_none,errW_some] <;> rfl) | (simp [*, errW_none,errW_some] <;> rfl),by repeat first | exact J155.z HI0 | apply J155.set_1 | apply J155.set_2 | refine J155.y ?_,by have e0_:=aM_ (J155.ge HI0.out);exact bZ_ HB,by exact eZ_ HK⟩
  ·rw [if_neg c5] at H
   exact absurd H (by simp)
 ·rw [if_neg c4] at H
  exact absurd H (by simp)
def spec_l2Text.f (s0_0 : List Int) (s0_1 : Int) (s0_2 : Int) : Option (ByteArray × Int × Int):=(spec_l1Str.f s0_0 s0_1 s0_2 (([(⟨#[]⟩ : ByteArray),(⟨#[97]⟩ : ByteArray),(⟨#[98]⟩ : ByteArray),(⟨#[97,98]⟩ : ByteArray),(⟨#[0]⟩ : ByteArray),(⟨#[97,0]⟩ : ByteArray),(⟨#[0,255]⟩ : ByteArray),(⟨#[255]⟩ : ByteArray),(⟨#[119,111,114,100]⟩ : ByteArray),(⟨#[122]⟩ : ByteArray)] : List ByteArray))).bind fun bt599=>(some (bt599.1,bt599.2.1,bt599.2.2))
set_option maxHeartbeats 8000000 in
set_option maxRecDepth 100000 in
theorem spec_l2Text.calls (g : Nat) (s0_0 : List Int) (s0_1 : Int) (s0_2 : Int) (r1 : ByteArray) (r2 : Int) (r3 : Int) (w0 w : World) (hI : J155 w0 w g s0_0 s0_1 s0_2) (hB : Below w0.heap.size w0 w) (h : spec_l2Text.f s0_0 s0_1 s0_2 = some (r1,r2,r3)) :
  Calls Try.prog 187 #[.pointer (some ⟨g,0,none⟩)] w fun e w'=>e = .returned (.string r1) ∧ J155 w0 w' g s0_0 r2 r3 ∧ Below w0.heap.size w0 w' ∧ KeepBut w w' g none:=by
 have HI0:=aM_ hI
 have HK:=aM_ (KeepBut.refl w g none)
 have HL:=aM_ hB.size
 clear hI
 have HW0:=aM_ hB.size
 have HB:=aM_ hB
 clear hB
 have H : ((spec_l1Str.f s0_0 s0_1 s0_2 (([(⟨#[]⟩ : ByteArray),(⟨#[97]⟩ : ByteArray),(⟨#[98]⟩ : ByteArray),(⟨#[97,98]⟩ : ByteArray),(⟨#[0]⟩ : ByteArray),(⟨#[97,0]⟩ : ByteArray),(⟨#[0,255]⟩ : ByteArray),(⟨#[255]⟩ : ByteArray),(⟨#[119,111,114,100]⟩ : ByteArray),(⟨#[122]⟩ : ByteArray)] : List ByteArray))).bind fun bt599=>(some (bt599.1,bt599.2.1,bt599.2.2))) = some (r1,r2,r3):=h
 clear h
 obtain ⟨y596,hy596⟩ : ∃ y_ : List ByteArray,y_ = (([(⟨#[]⟩ : ByteArray),(⟨#[97]⟩ : ByteArray),(⟨#[98]⟩ : ByteArray),(⟨#[97,98]⟩ : ByteArray),(⟨#[0]⟩ : ByteArray),(⟨#[97,0]⟩ : ByteArray),(⟨#[0,255]⟩ : ByteArray),(⟨#[255]⟩ : ByteArray),(⟨#[119,111,114,100]⟩ : ByteArray),(⟨#[122]⟩ : ByteArray)] : List ByteArray)):=⟨_,rfl⟩
 replace H : ((spec_l1Str.f s0_0 s0_1 s0_2 y596).bind fun bt599=>(some (bt599.1,bt599.2.1,bt599.2.2))) = some (r1,r2,r3):=by first | (rw [hy596];with_reducible exact H) | (have H2_:=(Option.bind_some _ _).symm.trans H;rw [hy596];with_reducible exact H2_) | (have H2_:=(Option.bind_some _ _).symm.trans H;with_reducible exact H2_) | with_reducible exact H | (rw [hy596];exact H) | exact H
 have Ny596:=aM_ hy596
 clear hy596
 replace H:=oB_ H
 obtain ⟨⟨t599,t600,t601⟩,A20,H⟩:=H
 replace H : (some (t599,t600,t601)) = some (r1,r2,r3):=H
 have A2:=aM_ A20
 clear A20
 simp only [Option.some.injEq,Prod.mk.injEq] at H
 obtain ⟨rfl,rfl,rfl⟩:=H
 go_enter Try.func187,Try.ntmps187
 go_wp2_with (first | ((with_reducible refine gate_dst (N:=4) rfl ?_);refine Kd.R_lit Kd.string _ 9 ?hg (N:=4) ?hd (xs:=([(⟨#[]⟩ : ByteArray),(⟨#[97]⟩ : ByteArray),(⟨#[98]⟩ : ByteArray),(⟨#[97,98]⟩ : ByteArray),(⟨#[0]⟩ : ByteArray),(⟨#[97,0]⟩ : ByteArray),(⟨#[0,255]⟩ : ByteArray),(⟨#[255]⟩ : ByteArray),(⟨#[119,111,114,100]⟩ : ByteArray),(⟨#[122]⟩ : ByteArray)] : List ByteArray)) (inner:=[.string (⟨#[]⟩ : ByteArray),.string (⟨#[97]⟩ : ByteArray),.string (⟨#[98]⟩ : ByteArray),.string (⟨#[97,98]⟩ : ByteArray),.string (⟨#[0]⟩ : ByteArray),.string (⟨#[97,0]⟩ : ByteArray),.string (⟨#[0,255]⟩ : ByteArray),.string (⟨#[255]⟩ : ByteArray),.string (⟨#[119,111,114,100]⟩ : ByteArray),.string (⟨#[122]⟩ : ByteArray)]) (ok:=fun _=>True) (okp:=fun _=>True) ?hr ?hp (fun _ hk=>hk) trivial (Below.refl _ _) (Nat.le_refl _) (by simp) ?_;(case hd=>rfl);(case hg=>rfl);(case hr=>first | (go_simp;done) | (go_simp;rfl));(case hp=>exact (Reps.one (show Kd.M Kd.string _ _ _ (⟨#[]⟩ : ByteArray) [.string (⟨#[]⟩ : ByteArray)] from rfl) (Reps.one (show Kd.M Kd.string _ _ _ (⟨#[97]⟩ : ByteArray) [.string (⟨#[97]⟩ : ByteArray)] from rfl) (Reps.one (show Kd.M Kd.string _ _ _ (⟨#[98]⟩ : ByteArray) [.string (⟨#[98]⟩ : ByteArray)] from rfl) (Reps.one (show Kd.M Kd.string _ _ _ (⟨#[97,98]⟩ : ByteArray) [.string (⟨#[97,98]⟩ : ByteArray)] from rfl) (Reps.one (show Kd.M Kd.string _ _ _ (⟨#[0]⟩ : ByteArray) [.string (⟨#[0]⟩ : ByteArray)] from rfl) (Reps.one (show Kd.M Kd.string _ _ _ (⟨#[97,0]⟩ : ByteArray) [.string (⟨#[97,0]⟩ : ByteArray)] from rfl) (Reps.one (show Kd.M Kd.string _ _ _ (⟨#[0,255]⟩ : ByteArray) [.string (⟨#[0,255]⟩ : ByteArray)] from rfl) (Reps.one (show Kd.M Kd.string _ _ _ (⟨#[255]⟩ : ByteArray) [.string (⟨#[255]⟩ : ByteArray)] from rfl) (Reps.one (show Kd.M Kd.string _ _ _ (⟨#[119,111,114,100]⟩ : ByteArray) [.string (⟨#[119,111,114,100]⟩ : ByteArray)] from rfl) (Reps.one (show Kd.M Kd.string _ _ _ (⟨#[122]⟩ : ByteArray) [.string (⟨#[122]⟩ : ByteArray)] from rfl) (Reps.none _ _))))))))))));intro v597 w3 ho4 hb hg_ hnew_;clear hg_ hnew_;(first | rw [← Ny596.out] at ho4 | (simp only [Int.reduceToNat] at ho4;rw [← Ny596.out] at ho4));have n0_:=aM_ (Kd.R_lower ho4 (keep_size (w:=w) (g:=g) (row:=none) (by exact eZ_ HK)));have n1_:=aM_ (J155.below (by repeat first | exact J155.z HI0 | apply J155.set_1 | apply J155.set_2 | refine J155.y ?_) hb);have n2_:=aM_ (KeepBut.trans (by exact eZ_ HK) (KeepBut.of_below hb g none) (.inl rfl));have n3_:=aM_ (bT_ (by have e0_:=aM_ (J155.ge HI0.out);exact bZ_ HB) hb);clear HI0;clear HK;clear HB;have HO598:=n0_;have HI0:=n1_;have HK:=n2_;have HB:=n3_;clear n0_ n1_ n2_ n3_;clear hb ho4;obtain ⟨Ao5,co5,eo5⟩:=Kd.R_slice HO598.out;subst eo5) | ((with_reducible refine gate_callee (f:=124) rfl ?_);refine goesL_ (some 5) rfl rfl Try.func124 (by kernel_rfl) rfl #[.pointer (some ⟨g,0,none⟩),.slice Ao5 y596.length co5] rfl (by (try simp only [mA_,mC_,mN_]);first | done | rfl | (simp only [lD_,lT_];rfl)) ?_;(with_reducible refine (spec_l1Str.calls g s0_0 s0_1 s0_2 _ _ y596 t599 t600 t601 w0 _ ?side1 ?side2 ?side3 ?side4 ?side5 A2.out).mono ?_);(case side1=>repeat first | exact J155.z HI0 | apply J155.set_1 | apply J155.set_2 | refine J155.y ?_);(case side2=>have e0_:=aM_ (J155.ge HI0.out);exact bZ_ HB);(case side3=>repeat (first | exact (Kd.R_reads' HO598.out).2.2 | (with_reducible refine cA_ ?_ _) | (with_reducible refine cN_ ?_ _) | (with_reducible refine cD_ ?_)));(case side4=>exact (Kd.R_reads' HO598.out).2.1);(case side5=>exact far_slice (J155.own_ne HI0.out HO598.out (by decide)));rintro e w6 ⟨rfl,hi,hb,hk⟩;refine ⟨_,rfl,?_⟩;have n0_:=aM_ (Kd.R_mono (Kd.R_keep (J155.apart (show J155 w0 _ g s0_0 s0_1 s0_2 from by repeat first | exact J155.z HI0 | apply J155.set_1 | apply J155.set_2 | refine J155.y ?_) (by exact rZ_ HO598) (by decide)) hk (fun _ h=>h.2)) (fun _ h=>h.1));have n1_:=aM_ (KeepBut.trans (by exact eZ_ HK) hk (.inl rfl));have n2_:=aM_ (hb);have n3_:=aM_ (hi);clear HO598;clear HK;clear HB;clear HI0;have HO598:=n0_;have HK:=n1_;have HB:=n2_;have HI0:=n3_;clear n0_ n1_ n2_ n3_;(try clear hb);(try clear hb2);(try clear hk);(try clear hi)))
 go_ret
 exact ⟨by first | rfl | (simp [errW_none,errW_some] <;> rfl) | (simp [*, errW_none,errW_some] <;> rfl),by repeat first | exact J155.z HI0 | apply J155.set_1 | apply J155.set_2 | refine J155.y ?_,by have e0_:=aM_ (J155.ge HI0.out);exact bZ_ HB,by exact eZ_ HK⟩
end Go.Proofs.Ytllgmgpfdnofmaa.PFnRowsRead
