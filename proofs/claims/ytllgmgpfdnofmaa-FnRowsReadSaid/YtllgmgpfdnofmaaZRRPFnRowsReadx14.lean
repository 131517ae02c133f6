import Derived.Test.YtllgmgpfdnofmaaZRRPFnRowsReadx0
import Derived.Test.YtllgmgpfdnofmaaZRRPFnRowsReadx1
import Derived.Test.YtllgmgpfdnofmaaZRRPFnRowsReadx2
import Derived.Test.YtllgmgpfdnofmaaZRRPFnRowsReadx3
import Derived.Test.YtllgmgpfdnofmaaZRRPFnRowsReadx6
import Derived.Test.YtllgmgpfdnofmaaZRRPFnRowsReadx10
import Derived.Test.YtllgmgpfdnofmaaZRRPFnRowsReadx11
import Derived.Test.YtllgmgpfdnofmaaZRRPFnRowsReadx12
import Derived.Test.YtllgmgpfdnofmaaZRRPFnRowsReadx13
namespace Go.Proofs.Ytllgmgpfdnofmaa.PFnRowsRead
open Go.RowKit Go.Proofs.YtllgmgpfdnofmaaW.PrintWords Go.Proofs.YtllgmgpfdnofmaaW.PrintLast Go.Proofs.YtllgmgpfdnofmaaW.PrintMore Go.Proofs.Ytllgmgpfdnofmaa.Xtra
attribute [local go_sem] max2_int min2_int max_two min_two max_three min_three max_four min_four str_leq str_gtr str_geq setCell_drewN cell_set2 cell_set3   -- for this text's walks alone
set_option linter.unusedVariables false
set_option linter.unusedSimpArgs false
def spec_DrawDecodeRow.j0 : Nat → List (S119) → List Int → Bool → List Int → Int → Int → Option ((List (S119)) × List Int)
 | 0,_,_,_,_,_,_=>none
 | k + 1,x5,x6,x22,x668000,x668001,x668002=>if x22 = true then (if 0 ≤ (wrap64 ((x6.length : Int) - 4)) then (if (wrap64 ((x6.length : Int) - 4)) ≤ (x6.length : Int) then ((spec_l1Bend.f x668000 x668001 x668002 (x6.take ((wrap64 ((x6.length : Int) - 4)) : Int).toNat)).bind fun bt687=>((spec_PutSum.f k bt687.1).bind fun t692=>(some (x5,t692)))) else (none)) else (none)) else ((spec_l1Bend.f x668000 x668001 x668002 x6).bind fun bt695=>(some (x5,bt695.1)))
def spec_DrawDecodeRow.f (k : Nat) (l0 : List Int) : Option ((List (S119)) × List Int):=(spec_l1New.f k l0).bind fun bt664=>((spec_l6Any.f k bt664.1 bt664.2.1 bt664.2.2).bind fun bt668=>((spec_l7Row.f k bt664.1 bt668.2.1 bt668.2.2 bt668.1).bind fun bt673=>((spec_EncodeRow.f k bt668.1 bt673.1).bind fun t678=>(if (t678.length : Int) > 4 then ((spec_l1Once.f bt664.1 bt673.2.1 bt673.2.2 3).bind fun bt681=>(spec_DrawDecodeRow.j0 k bt668.1 t678 bt681.1 bt664.1 bt681.2.1 bt681.2.2)) else (spec_DrawDecodeRow.j0 k bt668.1 t678 false bt664.1 bt673.2.1 bt673.2.2)))))
theorem spec_DrawDecodeRow.mono_l : ∀ k,(∀ y0 y1 y2 y3 y4 y5,LeO (spec_DrawDecodeRow.j0 k y0 y1 y2 y3 y4 y5) (spec_DrawDecodeRow.j0 (k + 1) y0 y1 y2 y3 y4 y5))
 | 0=>fun _ _ _ _ _ _ r h=>by simp [spec_DrawDecodeRow.j0] at h
 | k + 1=>by
  have ih0:=spec_DrawDecodeRow.mono_l k
  ·intro y0 y1 y2 y3 y4 y5
   unfold spec_DrawDecodeRow.j0
   repeat' first
   | (with_reducible exact ih0 _ _ _ _ _ _)
   | (with_reducible exact spec_EncodeRow.mono _ _ _)
   | (with_reducible exact spec_PutSum.mono _ _)
   | (with_reducible exact spec_l1New.mono _ _)
   | (with_reducible exact spec_l6Any.mono _ _ _ _)
   | (with_reducible exact spec_l7Row.mono _ _ _ _ _)
   | (with_reducible exact LeO.refl _)
   | (with_reducible exact LeO.none _)
   | (with_reducible refine LeO.ite ?_ ?_)
   | (with_reducible refine LeO.bind ?_ (fun _=>?_))
   | exact ih0 _ _ _ _ _ _
   | exact spec_EncodeRow.mono _ _ _
   | exact spec_PutSum.mono _ _
   | exact spec_l1New.mono _ _
   | exact spec_l6Any.mono _ _ _ _
   | exact spec_l7Row.mono _ _ _ _ _
   | exact LeO.none _
   | refine LeO.ite ?_ ?_
   | refine LeO.bind ?_ (fun _=>?_)
theorem spec_DrawDecodeRow.mono : ∀ a0 k,LeO (spec_DrawDecodeRow.f k a0) (spec_DrawDecodeRow.f (k + 1) a0):=by
 intro a0 k
 have ih0:=spec_DrawDecodeRow.mono_l k
 unfold spec_DrawDecodeRow.f
 repeat' first
   | (with_reducible exact ih0 _ _ _ _ _ _)
   | (with_reducible exact spec_EncodeRow.mono _ _ _)
   | (with_reducible exact spec_PutSum.mono _ _)
   | (with_reducible exact spec_l1New.mono _ _)
   | (with_reducible exact spec_l6Any.mono _ _ _ _)
   | (with_reducible exact spec_l7Row.mono _ _ _ _ _)
   | (with_reducible exact LeO.refl _)
   | (with_reducible exact LeO.none _)
   | (with_reducible refine LeO.ite ?_ ?_)
   | (with_reducible refine LeO.bind ?_ (fun _=>?_))
   | exact ih0 _ _ _ _ _ _
   | exact spec_EncodeRow.mono _ _ _
   | exact spec_PutSum.mono _ _
   | exact spec_l1New.mono _ _
   | exact spec_l6Any.mono _ _ _ _
   | exact spec_l7Row.mono _ _ _ _ _
   | exact LeO.none _
   | refine LeO.ite ?_ ?_
   | refine LeO.bind ?_ (fun _=>?_)
set_option maxHeartbeats 8000000 in
set_option maxRecDepth 100000 in
theorem spec_DrawDecodeRow.calls (k : Nat) (A0 : Option Addr) (c0 : Nat) (l0 : List Int) (r1 : List (S119)) (r2 : List Int) (w : World) (hr0 : Kd.C (Kd.int .u8) w A0 l0.length l0) (hc0 : l0.length ≤ c0) (h : spec_DrawDecodeRow.f k l0 = some (r1,r2)) :
  Calls Try.prog 52 #[.slice A0 l0.length c0] w fun e w'=>∃ v0_ v1_ : Value,e = .returned (.tuple #[v0_,v1_]) ∧ Kd.R k119 119 w' w.heap.size (fun _=>True) v0_ r1 ∧ Kd.R (Kd.int .u8) 5 w' w.heap.size (fun _=>True) v1_ r2 ∧ Below w.heap.size w w':=by
 have HR0:=aM_ hr0
 have HC0:=aM_ hc0
 clear hr0 hc0
 have HB:=aM_ (Below.refl w.heap.size w)
 have H : ((spec_l1New.f k l0).bind fun bt664=>((spec_l6Any.f k bt664.1 bt664.2.1 bt664.2.2).bind fun bt668=>((spec_l7Row.f k bt664.1 bt668.2.1 bt668.2.2 bt668.1).bind fun bt673=>((spec_EncodeRow.f k bt668.1 bt673.1).bind fun t678=>(if (t678.length : Int) > 4 then ((spec_l1Once.f bt664.1 bt673.2.1 bt673.2.2 3).bind fun bt681=>(spec_DrawDecodeRow.j0 k bt668.1 t678 bt681.1 bt664.1 bt681.2.1 bt681.2.2)) else (spec_DrawDecodeRow.j0 k bt668.1 t678 false bt664.1 bt673.2.1 bt673.2.2)))))) = some (r1,r2):=h
 clear h
 replace H:=oB_ H
 obtain ⟨⟨t664,t665,t666⟩,A20,H⟩:=H
 replace H : ((spec_l6Any.f k t664 t665 t666).bind fun bt668=>((spec_l7Row.f k t664 bt668.2.1 bt668.2.2 bt668.1).bind fun bt673=>((spec_EncodeRow.f k bt668.1 bt673.1).bind fun t678=>(if (t678.length : Int) > 4 then ((spec_l1Once.f t664 bt673.2.1 bt673.2.2 3).bind fun bt681=>(spec_DrawDecodeRow.j0 k bt668.1 t678 bt681.1 t664 bt681.2.1 bt681.2.2)) else (spec_DrawDecodeRow.j0 k bt668.1 t678 false t664 bt673.2.1 bt673.2.2))))) = some (r1,r2):=H
 have A2:=aM_ A20
 clear A20
 replace H:=oB_ H
 obtain ⟨⟨t668,t671,t672⟩,A30,H⟩:=H
 replace H : ((spec_l7Row.f k t664 t671 t672 t668).bind fun bt673=>((spec_EncodeRow.f k t668 bt673.1).bind fun t678=>(if (t678.length : Int) > 4 then ((spec_l1Once.f t664 bt673.2.1 bt673.2.2 3).bind fun bt681=>(spec_DrawDecodeRow.j0 k t668 t678 bt681.1 t664 bt681.2.1 bt681.2.2)) else (spec_DrawDecodeRow.j0 k t668 t678 false t664 bt673.2.1 bt673.2.2)))) = some (r1,r2):=H
 have A3:=aM_ A30
 clear A30
 replace H:=oB_ H
 obtain ⟨⟨t673,t676,t677⟩,A40,H⟩:=H
 replace H : ((spec_EncodeRow.f k t668 t673).bind fun t678=>(if (t678.length : Int) > 4 then ((spec_l1Once.f t664 t676 t677 3).bind fun bt681=>(spec_DrawDecodeRow.j0 k t668 t678 bt681.1 t664 bt681.2.1 bt681.2.2)) else (spec_DrawDecodeRow.j0 k t668 t678 false t664 t676 t677))) = some (r1,r2):=H
 have A4:=aM_ A40
 clear A40
 replace H:=oB_ H
 obtain ⟨t678,A50,H⟩:=H
 replace H : (if (t678.length : Int) > 4 then ((spec_l1Once.f t664 t676 t677 3).bind fun bt681=>(spec_DrawDecodeRow.j0 k t668 t678 bt681.1 t664 bt681.2.1 bt681.2.2)) else (spec_DrawDecodeRow.j0 k t668 t678 false t664 t676 t677)) = some (r1,r2):=H
 have A5:=aM_ A50
 clear A50
 have HC6:=aM_ H
 clear H
 go_enter Try.func52,Try.ntmps52
 go_upto_region 4 with (first | ((with_reducible refine gate_callee (f:=83) rfl ?_);refine goesL_ (some 8) rfl rfl Try.func83 (by kernel_rfl) rfl #[.slice A0 l0.length c0] rfl (by (try simp only [mA_,mC_,mN_]);first | done | rfl | (simp only [lD_,lT_];rfl)) ?_;(with_reducible refine (spec_l1New.calls k _ _ l0 t664 t665 t666 w _ ?side1 ?side2 ?side3 A2.out).mono ?_);(case side1=>exact bZ_ HB);(case side2=>exact HR0.out);(case side3=>exact HC0.out);rintro e w7 ⟨g667,rfl,hi,hb,hb2⟩;refine ⟨_,rfl,?_⟩;have n0_:=aM_ (hb);have n1_:=aM_ (hi);clear HB;have HB:=n0_;have HI667:=n1_;clear n0_ n1_;(try clear hb);(try clear hb2);(try clear hk);(try clear hi)) | ((with_reducible refine gate_callee (f:=106) rfl ?_);refine goesL_ (some 10) rfl rfl Try.func106 (by kernel_rfl) rfl #[.pointer (some ⟨g667,0,none⟩)] rfl (by (try simp only [mA_,mC_,mN_]);first | done | rfl | (simp only [lD_,lT_];rfl)) ?_;(with_reducible refine (spec_l6Any.calls k g667 t664 t665 t666 t668 t671 t672 w _ ?side1 ?side2 A3.out).mono ?_);(case side1=>repeat first | exact J155.z HI667 | apply J155.set_1 | apply J155.set_2 | refine J155.y ?_);(case side2=>have e0_:=aM_ (J155.ge HI667.out);exact bZ_ HB);rintro e w8 ⟨v669,rfl,ho0,hi,hb,hk⟩;refine ⟨_,rfl,?_⟩;have n0_:=aM_ (Kd.R_lower ho0 (bS_ (by have e0_:=aM_ (J155.ge HI667.out);exact bZ_ HB)));have n1_:=aM_ (hb);have n2_:=aM_ (hi);clear HB;clear HI667;have HO670:=n0_;have HB:=n1_;have HI667:=n2_;clear n0_ n1_ n2_;(try clear hb);(try clear hb2);(try clear hk);(try clear hi);(try clear ho0);obtain ⟨Ao9,co9,eo9⟩:=Kd.R_slice HO670.out;subst eo9) | ((with_reducible refine gate_callee (f:=109) rfl ?_);refine goesL_ (some 14) rfl rfl Try.func109 (by kernel_rfl) rfl #[.pointer (some ⟨g667,0,none⟩),.slice Ao9 t668.length co9] rfl (by (try simp only [mA_,mC_,mN_]);first | done | rfl | (simp only [lD_,lT_];rfl)) ?_;(with_reducible refine (spec_l7Row.calls k g667 t664 t671 t672 _ _ t668 t673 t676 t677 w _ ?side1 ?side2 ?side3 ?side4 A4.out).mono ?_);(case side1=>repeat first | exact J155.z HI667 | apply J155.set_1 | apply J155.set_2 | refine J155.y ?_);(case side2=>have e0_:=aM_ (J155.ge HI667.out);exact bZ_ HB);(case side3=>exact Kd.C_foot_own (J155.apart (show J155 w _ g667 t664 t671 t672 from by repeat first | exact J155.z HI667 | apply J155.set_1 | apply J155.set_2 | refine J155.y ?_) (by exact rZ_ HO670) (by decide)) (fun _ h_=>h_.2));(case side4=>exact (Kd.R_reads' HO670.out).2.1);rintro e w10 ⟨v674,rfl,ho0,hi,hb,hk⟩;refine ⟨_,rfl,?_⟩;have n0_:=aM_ (Kd.R_mono (Kd.R_keep (J155.apart (show J155 w _ g667 t664 t671 t672 from by repeat first | exact J155.z HI667 | apply J155.set_1 | apply J155.set_2 | refine J155.y ?_) (by exact rZ_ HO670) (by decide)) hk (fun _ h=>h.2)) (fun _ h=>h.1));have n1_:=aM_ (Kd.R_lower ho0 (bS_ (by have e0_:=aM_ (J155.ge HI667.out);exact bZ_ HB)));have n2_:=aM_ (hb);have n3_:=aM_ (hi);clear HO670;clear HB;clear HI667;have HO670:=n0_;have HO675:=n1_;have HB:=n2_;have HI667:=n3_;clear n0_ n1_ n2_ n3_;(try clear hb);(try clear hb2);(try clear hk);(try clear hi);(try clear ho0);obtain ⟨Ao11,co11,eo11⟩:=Kd.R_slice HO675.out;subst eo11) | ((with_reducible refine gate_callee (f:=36) rfl ?_);refine goesL_ (some 15) rfl rfl Try.func36 (by kernel_rfl) rfl #[.slice Ao9 t668.length co9,.slice Ao11 t673.length co11] rfl (by (try simp only [mA_,mC_,mN_]);first | done | rfl | (simp only [lD_,lT_];rfl)) ?_;(with_reducible refine (spec_EncodeRow.calls k _ _ t668 _ _ t673 t678 _ ?side1 ?side2 ?side3 ?side4 A5.out).mono ?_);(case side1=>repeat (first | exact (Kd.R_reads' HO670.out).2.2 | (with_reducible refine cA_ ?_ _) | (with_reducible refine cN_ ?_ _) | (with_reducible refine cD_ ?_)));(case side2=>exact (Kd.R_reads' HO670.out).2.1);(case side3=>repeat (first | exact (Kd.R_reads' HO675.out).2.2 | (with_reducible refine cA_ ?_ _) | (with_reducible refine cN_ ?_ _) | (with_reducible refine cD_ ?_)));(case side4=>exact (Kd.R_reads' HO675.out).2.1);rintro e w12 ⟨v679,rfl,ho0,hb⟩;refine ⟨_,rfl,?_⟩;have n0_:=aM_ (Kd.R_below (by exact rZ_ HO670) hb);have n1_:=aM_ (Kd.R_below (by exact rZ_ HO675) hb);have n2_:=aM_ (Kd.R_lower ho0 (bS_ (by have e0_:=aM_ (J155.ge HI667.out);exact bZ_ HB)));have n3_:=aM_ (J155.below (by repeat first | exact J155.z HI667 | apply J155.set_1 | apply J155.set_2 | refine J155.y ?_) hb);have n4_:=aM_ (bT_ (by have e0_:=aM_ (J155.ge HI667.out);exact bZ_ HB) hb);clear HO670;clear HO675;clear HI667;clear HB;have HO670:=n0_;have HO675:=n1_;have HO680:=n2_;have HI667:=n3_;have HB:=n4_;clear n0_ n1_ n2_ n3_ n4_;(try clear hb);(try clear hb2);(try clear hk);(try clear hi);(try clear ho0)))
 (try simp only [Act.put,sI_,sZ_,sS_])
 go_cut [22] (fun v22 wc=>∃ (kq : Nat) (x22_5 : Bool) (x668001_5 : Int) (x668002_5 : Int),v22 = .bool x22_5 ∧ Aside0 (spec_DrawDecodeRow.j0 kq t668 t678 x22_5 t664 x668001_5 x668002_5 = some (r1,r2)) ∧ Aside0 (kq ≤ k) ∧ Aside0 (Kd.R k119 119 wc w.heap.size (fun _=>True) (.slice Ao9 t668.length co9) t668) ∧ Aside0 (Kd.R (Kd.int .u8) 5 wc w.heap.size (fun _=>True) v679 t678) ∧ Aside0 (J155 w wc g667 t664 x668001_5 x668002_5) ∧ Aside0 (Below w.heap.size w wc))
 case first =>
  have H:=HC6.out
  clear HC6
  by_cases c13 : (t678.length : Int) > 4
  ·rw [if_pos c13] at H
   have c13b0 : decide (4 < (t678.length : Int)) = true:=decide_eq_true c13
   have c13b1 : decide (4 < t678.length) = true:=decide_eq_true (by omega)
   clear c13
   (first | rw [c13b0] | (simp only [i64_w,i32_w];rw [c13b0]) | skip)
   replace H:=oB_ H
   obtain ⟨⟨t681,t682,t683⟩,A140,H⟩:=H
   replace H : (spec_DrawDecodeRow.j0 k t668 t678 t681 t664 t682 t683) = some (r1,r2):=H
   have A14:=aM_ A140
   clear A140
   have H':=aM_ H
   clear H
   obtain ⟨Ao15,co15,eo15⟩:=Kd.R_slice HO680.out
   subst eo15
   go_wp2_with (first | (go_at_call 107;(with_reducible refine (spec_l1Once.calls g667 t664 t676 t677 3 t681 t682 t683 w _ ?side1 ?side2 A14.out).mono ?_);(case side1=>repeat first | exact J155.z HI667 | apply J155.set_1 | apply J155.set_2 | refine J155.y ?_);(case side2=>have e0_:=aM_ (J155.ge HI667.out);exact bZ_ HB);rintro e w16 ⟨rfl,hi,hb,hk⟩;have n0_:=aM_ (Kd.R_mono (Kd.R_keep (J155.apart (show J155 w _ g667 t664 t676 t677 from by repeat first | exact J155.z HI667 | apply J155.set_1 | apply J155.set_2 | refine J155.y ?_) (by exact rZ_ HO670) (by decide)) hk (fun _ h=>h.2)) (fun _ h=>h.1));have n1_:=aM_ (Kd.R_mono (Kd.R_keep (J155.apart (show J155 w _ g667 t664 t676 t677 from by repeat first | exact J155.z HI667 | apply J155.set_1 | apply J155.set_2 | refine J155.y ?_) (by exact rZ_ HO675) (by decide)) hk (fun _ h=>h.2)) (fun _ h=>h.1));have n2_:=aM_ (Kd.R_mono (Kd.R_keep (J155.apart (show J155 w _ g667 t664 t676 t677 from by repeat first | exact J155.z HI667 | apply J155.set_1 | apply J155.set_2 | refine J155.y ?_) (by exact rZ_ HO680) (by decide)) hk (fun _ h=>h.2)) (fun _ h=>h.1));have n3_:=aM_ (hb);have n4_:=aM_ (hi);clear HO670;clear HO675;clear HO680;clear HB;clear HI667;have HO670:=n0_;have HO675:=n1_;have HO680:=n2_;have HB:=n3_;have HI667:=n4_;clear n0_ n1_ n2_ n3_ n4_;(try clear hb);(try clear hb2);(try clear hk);(try clear hi)))
   (first | go_meet | (refine Met.intro ?_;go_step;(repeat apply Exists.intro);refine ⟨?rel,?eq⟩;(case eq=>(try simp only [c20b0]);(try simp only [c20b0]);(try simp only [c13b0]);rfl)))
   case rel=>exact ⟨_,(t681),(t682),(t683),(by first | rfl | (simp;done) | (simp [*];done)),H', ⟨by first | omega | exact Nat.le_refl _⟩,⟨by exact rZ_ HO670⟩,⟨by exact rZ_ HO680⟩,⟨by repeat first | exact J155.z HI667 | apply J155.set_1 | apply J155.set_2 | refine J155.y ?_⟩,⟨by have e0_:=aM_ (J155.ge HI667.out);exact bZ_ HB⟩⟩
  ·rw [if_neg c13] at H
   have c13b0 : decide (4 < (t678.length : Int)) = false:=decide_eq_false c13
   have c13b1 : decide (4 < t678.length) = false:=decide_eq_false (by omega)
   clear c13
   (first | rw [c13b0] | (simp only [i64_w,i32_w];rw [c13b0]) | skip)
   have H':=aM_ H
   clear H
   obtain ⟨Ao17,co17,eo17⟩:=Kd.R_slice HO680.out
   subst eo17
   go_wp2
   (first | go_meet | (refine Met.intro ?_;go_step;(repeat apply Exists.intro);refine ⟨?rel,?eq⟩;(case eq=>(try simp only [c20b0]);(try simp only [c13b0]);(try simp only [c13b0]);rfl)))
   case rel=>exact ⟨_,(false),(t676),(t677),(by first | rfl | (simp;done) | (simp [*];done)),H', ⟨by first | omega | exact Nat.le_refl _⟩,⟨by exact rZ_ HO670⟩,⟨by exact rZ_ HO680⟩,⟨by repeat first | exact J155.z HI667 | apply J155.set_1 | apply J155.set_2 | refine J155.y ?_⟩,⟨by have e0_:=aM_ (J155.ge HI667.out);exact bZ_ HB⟩⟩
 case rest =>
  clear HC6
  try clear c1
  try clear c2
  try clear p2
  try clear c3
  try clear c5
  try clear c8
  try clear c10
  try clear c13
  try clear c13b0
  try clear c13b1
  obtain ⟨kq,x22_5,x668001_5,x668002_5,rfl,HA,HJ5,HO_5,HO_6,HI667,HB⟩:=hcut
  cases kq with
  | zero=>exact absurd HA.out (by simp [spec_DrawDecodeRow.j0])
  | succ kj5 =>
   have H:=HA.out
   clear HA
   simp only [spec_DrawDecodeRow.j0] at H
   by_cases c18 : x22_5 = true
   ·subst c18
    have H1 : (if 0 ≤ (wrap64 ((t678.length : Int) - 4)) then (if (wrap64 ((t678.length : Int) - 4)) ≤ (t678.length : Int) then ((spec_l1Bend.f t664 x668001_5 x668002_5 (t678.take ((wrap64 ((t678.length : Int) - 4)) : Int).toNat)).bind fun bt687=>((spec_PutSum.f kj5 bt687.1).bind fun t692=>(some (t668,t692)))) else (none)) else (none)) = some (r1,r2):=by rw [if_pos rfl] at H;exact H
    clear H
    have H:=H1
    clear H1
    obtain ⟨ji19,hji19⟩ : ∃ j_ : Int,(wrap64 ((t678.length : Int) - 4)) = j_:=⟨_,rfl⟩
    replace H : (if 0 ≤ (ji19) then (if (ji19) ≤ (t678.length : Int) then ((spec_l1Bend.f t664 x668001_5 x668002_5 (t678.take ((ji19) : Int).toNat)).bind fun bt687=>((spec_PutSum.f kj5 bt687.1).bind fun t692=>(some (t668,t692)))) else (none)) else (none)) = some (r1,r2):=by first | (rw [hji19] at H;exact H) | (simp only [hji19] at H ⊢;exact H)
    have hji19w : (IntKind.i64.wrap ((t678.length : Int) - 4)) = ji19:=(i64_w _).trans hji19
    by_cases c20 : 0 ≤ (ji19)
    ·rw [if_pos c20] at H
     have c20b0:=eq_true c20
     have c20b1 : decide (0 ≤ (ji19)) = true:=decide_eq_true c20
     clear c20
     by_cases c21 : (ji19) ≤ (t678.length : Int)
     ·rw [if_pos c21] at H
      have c21b0:=eq_true c21
      have c21b1 : decide ((ji19) ≤ (t678.length : Int)) = true:=decide_eq_true c21
      clear c21
      obtain ⟨y684,hy684⟩ : ∃ y_ : List Int,y_ = (t678.take ((ji19) : Int).toNat):=⟨_,rfl⟩
      replace H : ((spec_l1Bend.f t664 x668001_5 x668002_5 y684).bind fun bt687=>((spec_PutSum.f kj5 bt687.1).bind fun t692=>(some (t668,t692)))) = some (r1,r2):=by first | (rw [hy684];with_reducible exact H) | (have H2_:=(Option.bind_some _ _).symm.trans H;rw [hy684];with_reducible exact H2_) | (have H2_:=(Option.bind_some _ _).symm.trans H;with_reducible exact H2_) | with_reducible exact H | (rw [hy684];exact H) | exact H
      have Ny684:=aM_ hy684
      clear hy684
      replace H:=oB_ H
      obtain ⟨⟨t687,t690,t691⟩,A220,H⟩:=H
      replace H : ((spec_PutSum.f kj5 t687).bind fun t692=>(some (t668,t692))) = some (r1,r2):=H
      have A22:=aM_ A220
      clear A220
      replace H:=oB_ H
      obtain ⟨t692,A230,H⟩:=H
      replace H : (some (t668,t692)) = some (r1,r2):=H
      have A23:=aM_ A230
      clear A230
      simp only [Option.some.injEq,Prod.mk.injEq] at H
      obtain ⟨rfl,rfl⟩:=H
      obtain ⟨Ao24,co24,eo24⟩:=Kd.R_slice HO_6.out
      subst eo24
      have q25 : ((ji19) : Int) ≤ ((t678.length : Int) : Int):=oT_ (by first | (with_reducible assumption) | assumption)
      obtain ⟨i025,hi025,_,hsz25,_⟩:=info_parts info5
      have hcut25:=cut_to (P:=Try.prog) 27 5 .i64 Try.underlying27 hi025 Ao24 t678.length co24 (ji19) (oT_ (by first | (with_reducible assumption) | assumption)) q25 (Kd.R_reads' HO_6.out).2.1
      have hr25:=Kd.R_take (m:=((ji19) : Int).toNat) HO_6.out (by omega)
      have hy25 : y684.length = ((ji19) : Int).toNat:=(by rw [Ny684.out,lT_];omega)
      rw [← Ny684.out] at hr25
      rw [← hy25] at hr25 hcut25
      clear hy25 hi025 hsz25 HO_6
      have HO686:=aM_ hr25
      clear hr25
      replace q25:=eq_true q25
      go_wp2_with (first | ((with_reducible refine gate_callee (f:=85) rfl ?_);refine goesL_ (some 30) rfl rfl Try.func85 (by kernel_rfl) rfl #[.pointer (some ⟨g667,0,none⟩),.slice Ao24 y684.length co24] rfl (by (try simp only [mA_,mC_,mN_]);first | done | rfl | (simp only [lD_,lT_];rfl)) ?_;(with_reducible refine (spec_l1Bend.calls g667 t664 x668001_5 x668002_5 (fun k_=>some k_ = (.slice Ao24 y684.length co24 : Value).ownBlock) (.slice Ao24 y684.length co24) y684 t687 t690 t691 w _ ?side1 ?side2 ?side3 A22.out).mono ?_);(case side1=>repeat first | exact J155.z HI667 | apply J155.set_1 | apply J155.set_2 | refine J155.y ?_);(case side2=>have e0_:=aM_ (J155.ge HI667.out);exact bZ_ HB);(case side3=>exact Kd.R_tight rfl HO686.out);rintro e w26 ⟨v688,rfl,ho0,hi,hb,hkp⟩;refine ⟨_,rfl,?_⟩;have n0_:=aM_ (Kd.R_mono (ok':=fun k_=>True) (Kd.R_keptB ((J155.apart HI667.out (Kd.R_apart' HO_5.out (Kd.R_typed HO686.out) (by decide)) (by decide))) hkp (fun k_ hk_ hs_=>Or.elim hs_ (fun hs_=>(hk_.1.2) hs_) (fun e_=>(hk_.2) e_))) (fun k_ hk_=>trivial));have n1_:=aM_ (hi);have n2_:=aM_ (Kd.R_mono (ok':=fun k_=>True) ho0 (fun k_ hk_=>trivial));have n3_:=aM_ (hb);clear HO_5;clear HI667;clear HB;clear HO686;have HO_5:=n0_;have HI667:=n1_;have HO689:=n2_;have HB:=n3_;clear n0_ n1_ n2_ n3_;(try clear hb);(try clear hkp);(try clear ho0);obtain ⟨Ao27,co27,eo27⟩:=Kd.R_slice HO689.out;subst eo27) | ((with_reducible refine gate_callee (f:=96) rfl ?_);refine goesL_ (some 31) rfl rfl Try.func96 (by kernel_rfl) rfl #[.slice Ao27 t687.length co27] rfl (by (try simp only [mA_,mC_,mN_]);first | done | rfl | (simp only [lD_,lT_];rfl)) ?_;(with_reducible refine (spec_PutSum.calls kj5 _ _ t687 t692 _ ?side1 ?side2 A23.out).mono ?_);(case side1=>repeat (first | exact (Kd.R_reads' HO689.out).2.2 | (with_reducible refine cA_ ?_ _) | (with_reducible refine cN_ ?_ _) | (with_reducible refine cD_ ?_)));(case side2=>exact (Kd.R_reads' HO689.out).2.1);rintro e w28 ⟨v693,rfl,ho0,hb⟩;refine ⟨_,rfl,?_⟩;have n0_:=aM_ (Kd.R_below (by exact rZ_ HO_5) hb);have n1_:=aM_ (Kd.R_elder' (by exact rZ_ HO689) (Kd.R_base ho0) hb);have n2_:=aM_ (Kd.R_lower (Kd.R_new' ho0 (Kd.R_lt (by exact rZ_ HO689))) (bS_ (by have e0_:=aM_ (J155.ge HI667.out);exact bZ_ HB)));have n3_:=aM_ (J155.below (by repeat first | exact J155.z HI667 | apply J155.set_1 | apply J155.set_2 | refine J155.y ?_) hb);have n4_:=aM_ (bT_ (by have e0_:=aM_ (J155.ge HI667.out);exact bZ_ HB) hb);clear HO_5;clear HO689;clear HI667;clear HB;have HO_5:=n0_;have HO689:=n1_;have HO694:=n2_;have HI667:=n3_;have HB:=n4_;clear n0_ n1_ n2_ n3_ n4_;(try clear hb);(try clear hb2);(try clear hk);(try clear hi);(try clear ho0)))
      go_ret2
      exact ⟨_,_,by first | rfl | (simp [errW_none,errW_some] <;> rfl) | (simp only [← hji19];first | rfl | (simp [errW_none,errW_some] <;> rfl)) | (simp [*, errW_none,errW_some] <;> rfl),by exact rZ_ HO_5,by (with_reducible repeat (first | apply rA_ | apply rN_ | apply rD_));exact Kd.R_mono HO694.out (fun _ hk=>trivial),by have e0_:=aM_ (J155.ge HI667.out);exact bZ_ HB⟩
     ·rw [if_neg c21] at H
      exact absurd H (by simp)
    ·rw [if_neg c20] at H
     exact absurd H (by simp)
   ·replace c18:=Bool.eq_false_iff.mpr c18
    subst c18
    have H1 : ((spec_l1Bend.f t664 x668001_5 x668002_5 t678).bind fun bt695=>(some (t668,bt695.1))) = some (r1,r2):=by rw [if_neg (show ¬ (false = true) by decide)] at H;exact H
    clear H
    have H:=H1
    clear H1
    replace H:=oB_ H
    obtain ⟨⟨t695,t698,t699⟩,A290,H⟩:=H
    replace H : (some (t668,t695)) = some (r1,r2):=H
    have A29:=aM_ A290
    clear A290
    simp only [Option.some.injEq,Prod.mk.injEq] at H
    obtain ⟨rfl,rfl⟩:=H
    obtain ⟨Ao30,co30,eo30⟩:=Kd.R_slice HO_6.out
    subst eo30
    go_wp2_with (first | ((with_reducible refine gate_callee (f:=85) rfl ?_);refine goesL_ (some 35) rfl rfl Try.func85 (by kernel_rfl) rfl #[.pointer (some ⟨g667,0,none⟩),.slice Ao30 t678.length co30] rfl (by (try simp only [mA_,mC_,mN_]);first | done | rfl | (simp only [lD_,lT_];rfl)) ?_;(with_reducible refine (spec_l1Bend.calls g667 t664 x668001_5 x668002_5 (fun k_=>some k_ = (.slice Ao30 t678.length co30 : Value).ownBlock) (.slice Ao30 t678.length co30) t678 t695 t698 t699 w _ ?side1 ?side2 ?side3 A29.out).mono ?_);(case side1=>repeat first | exact J155.z HI667 | apply J155.set_1 | apply J155.set_2 | refine J155.y ?_);(case side2=>have e0_:=aM_ (J155.ge HI667.out);exact bZ_ HB);(case side3=>exact Kd.R_tight rfl HO_6.out);rintro e w31 ⟨v696,rfl,ho0,hi,hb,hkp⟩;refine ⟨_,rfl,?_⟩;have n0_:=aM_ (Kd.R_mono (ok':=fun k_=>True) (Kd.R_keptB ((J155.apart HI667.out (Kd.R_apart' HO_5.out (Kd.R_typed HO_6.out) (by decide)) (by decide))) hkp (fun k_ hk_ hs_=>Or.elim hs_ (fun hs_=>(hk_.1.2) hs_) (fun e_=>(hk_.2) e_))) (fun k_ hk_=>trivial));have n1_:=aM_ (hi);have n2_:=aM_ (Kd.R_mono (ok':=fun k_=>True) ho0 (fun k_ hk_=>trivial));have n3_:=aM_ (hb);clear HO_5;clear HI667;clear HB;clear HO_6;have HO_5:=n0_;have HI667:=n1_;have HO697:=n2_;have HB:=n3_;clear n0_ n1_ n2_ n3_;(try clear hb);(try clear hkp);(try clear ho0)))
    go_ret2
    exact ⟨_,_,by first | rfl | (simp [errW_none,errW_some] <;> rfl) | (simp [*, errW_none,errW_some] <;> rfl),by exact rZ_ HO_5,by exact rZ_ HO697,by have e0_:=aM_ (J155.ge HI667.out);exact bZ_ HB⟩
def laws_FnRowsRead.f (k : Nat) (l0 : List Int) : Option (Bool):=(laws_big.f l0).bind fun t700=>(if t700 = true then (some true) else ((spec_DrawDecodeRow.f k l0).bind fun bt701=>((impl_DecodeRow.f k bt701.1 bt701.2).bind fun bt707=>((spec_DecodeRow.f k bt701.1 bt701.2).bind fun bt711=>(if (bt707.2 == bt711.2) = true then (if bt707.2 = true then ((impl_RowOk.f k bt701.1 bt707.1).bind fun t715=>(if t715 = true then ((impl_EncodeRow.f k bt701.1 bt707.1).bind fun t716=>((laws_sameBytes.f k t716 bt701.2).bind fun t719=>(some t719))) else (some false))) else (if (bt707.1.length : Int) = 0 then (some true) else (some false))) else (some false))))))
theorem laws_FnRowsRead.mono : ∀ a0 k,LeO (laws_FnRowsRead.f k a0) (laws_FnRowsRead.f (k + 1) a0):=by
 intro a0 k
 unfold laws_FnRowsRead.f
 repeat' first
   | (with_reducible exact impl_DecodeRow.mono _ _ _)
   | (with_reducible exact impl_EncodeRow.mono _ _ _)
   | (with_reducible exact impl_RowOk.mono _ _ _)
   | (with_reducible exact laws_sameBytes.mono _ _ _)
   | (with_reducible exact spec_DecodeRow.mono _ _ _)
   | (with_reducible exact spec_DrawDecodeRow.mono _ _)
   | (with_reducible exact LeO.refl _)
   | (with_reducible exact LeO.none _)
   | (with_reducible refine LeO.ite ?_ ?_)
   | (with_reducible refine LeO.bind ?_ (fun _=>?_))
   | exact impl_DecodeRow.mono _ _ _
   | exact impl_EncodeRow.mono _ _ _
   | exact impl_RowOk.mono _ _ _
   | exact laws_sameBytes.mono _ _ _
   | exact spec_DecodeRow.mono _ _ _
   | exact spec_DrawDecodeRow.mono _ _
   | exact LeO.none _
   | refine LeO.ite ?_ ?_
   | refine LeO.bind ?_ (fun _=>?_)
set_option maxHeartbeats 8000000 in
set_option maxRecDepth 100000 in
theorem laws_FnRowsRead.calls (k : Nat) (A0 : Option Addr) (c0 : Nat) (l0 : List Int) (r : Bool) (w : World) (hr0 : Kd.C (Kd.int .u8) w A0 l0.length l0) (hc0 : l0.length ≤ c0) (hr_ : Aside0 (r = true)) (h : laws_FnRowsRead.f k l0 = some r) :
  Calls Try.prog 9 #[.slice A0 l0.length c0] w fun e w'=>e = .returned (.bool r) ∧ Below w.heap.size w w':=by
 have HR0:=aM_ hr0
 have HC0:=aM_ hc0
 clear hr0 hc0
 have HB:=aM_ (Below.refl w.heap.size w)
 have H : ((laws_big.f l0).bind fun t700=>(if t700 = true then (some true) else ((spec_DrawDecodeRow.f k l0).bind fun bt701=>((impl_DecodeRow.f k bt701.1 bt701.2).bind fun bt707=>((spec_DecodeRow.f k bt701.1 bt701.2).bind fun bt711=>(if (bt707.2 == bt711.2) = true then (if bt707.2 = true then ((impl_RowOk.f k bt701.1 bt707.1).bind fun t715=>(if t715 = true then ((impl_EncodeRow.f k bt701.1 bt707.1).bind fun t716=>((laws_sameBytes.f k t716 bt701.2).bind fun t719=>(some t719))) else (some false))) else (if (bt707.1.length : Int) = 0 then (some true) else (some false))) else (some false))))))) = some r:=h
 clear h
 replace H:=oB_ H
 obtain ⟨t700,A20,H⟩:=H
 replace H : (if t700 = true then (some true) else ((spec_DrawDecodeRow.f k l0).bind fun bt701=>((impl_DecodeRow.f k bt701.1 bt701.2).bind fun bt707=>((spec_DecodeRow.f k bt701.1 bt701.2).bind fun bt711=>(if (bt707.2 == bt711.2) = true then (if bt707.2 = true then ((impl_RowOk.f k bt701.1 bt707.1).bind fun t715=>(if t715 = true then ((impl_EncodeRow.f k bt701.1 bt707.1).bind fun t716=>((laws_sameBytes.f k t716 bt701.2).bind fun t719=>(some t719))) else (some false))) else (if (bt707.1.length : Int) = 0 then (some true) else (some false))) else (some false)))))) = some r:=H
 have A2:=aM_ A20
 clear A20
 by_cases c3 : t700 = true
 ·subst c3
  have H1 : (some true) = some r:=by rw [if_pos rfl] at H;exact H
  clear H
  have H:=H1
  clear H1
  obtain rfl:=Option.some.inj H
  go_enter Try.func9,Try.ntmps9
  go_wp2_with (first | ((with_reducible refine gate_callee (f:=25) rfl ?_);refine goesL_ (some 10) rfl rfl Try.func25 (by kernel_rfl) rfl #[.slice A0 l0.length c0] rfl (by (try simp only [mA_,mC_,mN_]);first | done | rfl | (simp only [lD_,lT_];rfl)) ?_;(with_reducible refine (laws_big.calls _ _ l0 true _ ?side1 ?side2 A2.out).mono ?_);(case side1=>repeat (first | exact HR0.out | (with_reducible refine cA_ ?_ _) | (with_reducible refine cN_ ?_ _) | (with_reducible refine cD_ ?_)));(case side2=>exact HC0.out);rintro e w' ⟨rfl,⟨nd,rfl⟩⟩;refine ⟨_,rfl,?_⟩))
  go_ret
  exact ⟨by first | rfl | (simp [errW_none,errW_some] <;> rfl) | (simp [*, errW_none,errW_some] <;> rfl),by exact bZ_ HB⟩
 ·replace c3:=Bool.eq_false_iff.mpr c3
  subst c3
  have H1 : ((spec_DrawDecodeRow.f k l0).bind fun bt701=>((impl_DecodeRow.f k bt701.1 bt701.2).bind fun bt707=>((spec_DecodeRow.f k bt701.1 bt701.2).bind fun bt711=>(if (bt707.2 == bt711.2) = true then (if bt707.2 = true then ((impl_RowOk.f k bt701.1 bt707.1).bind fun t715=>(if t715 = true then ((impl_EncodeRow.f k bt701.1 bt707.1).bind fun t716=>((laws_sameBytes.f k t716 bt701.2).bind fun t719=>(some t719))) else (some false))) else (if (bt707.1.length : Int) = 0 then (some true) else (some false))) else (some false))))) = some r:=by rw [if_neg (show ¬ (false = true) by decide)] at H;exact H
  clear H
  have H:=H1
  clear H1
  replace H:=oB_ H
  obtain ⟨⟨t701,t702⟩,A40,H⟩:=H
  replace H : ((impl_DecodeRow.f k t701 t702).bind fun bt707=>((spec_DecodeRow.f k t701 t702).bind fun bt711=>(if (bt707.2 == bt711.2) = true then (if bt707.2 = true then ((impl_RowOk.f k t701 bt707.1).bind fun t715=>(if t715 = true then ((impl_EncodeRow.f k t701 bt707.1).bind fun t716=>((laws_sameBytes.f k t716 t702).bind fun t719=>(some t719))) else (some false))) else (if (bt707.1.length : Int) = 0 then (some true) else (some false))) else (some false)))) = some r:=H
  have A4:=aM_ A40
  clear A40
  replace H:=oB_ H
  obtain ⟨⟨t707,t708⟩,A50,H⟩:=H
  replace H : ((spec_DecodeRow.f k t701 t702).bind fun bt711=>(if (t708 == bt711.2) = true then (if t708 = true then ((impl_RowOk.f k t701 t707).bind fun t715=>(if t715 = true then ((impl_EncodeRow.f k t701 t707).bind fun t716=>((laws_sameBytes.f k t716 t702).bind fun t719=>(some t719))) else (some false))) else (if (t707.length : Int) = 0 then (some true) else (some false))) else (some false))) = some r:=H
  have A5:=aM_ A50
  clear A50
  replace H:=oB_ H
  obtain ⟨⟨t711,t712⟩,A60,H⟩:=H
  replace H : (if (t708 == t712) = true then (if t708 = true then ((impl_RowOk.f k t701 t707).bind fun t715=>(if t715 = true then ((impl_EncodeRow.f k t701 t707).bind fun t716=>((laws_sameBytes.f k t716 t702).bind fun t719=>(some t719))) else (some false))) else (if (t707.length : Int) = 0 then (some true) else (some false))) else (some false)) = some r:=H
  have A6:=aM_ A60
  clear A60
  by_cases c7 : (t708 == t712) = true
  ·rw [if_pos c7] at H
   have c7b0 : (t708 == t712) = true:=c7
   (try (have c7b1 : decide (t708 = t712) = true:=by simpa using c7))
   (try (have c7b2 : (t708 == t712) = true:=by simpa using c7))
   clear c7
   by_cases c8 : t708 = true
   ·subst c8
    have H1 : ((impl_RowOk.f k t701 t707).bind fun t715=>(if t715 = true then ((impl_EncodeRow.f k t701 t707).bind fun t716=>((laws_sameBytes.f k t716 t702).bind fun t719=>(some t719))) else (some false))) = some r:=by rw [if_pos rfl] at H;exact H
    clear H
    have H:=H1
    clear H1
    replace H:=oB_ H
    obtain ⟨t715,A90,H⟩:=H
    replace H : (if t715 = true then ((impl_EncodeRow.f k t701 t707).bind fun t716=>((laws_sameBytes.f k t716 t702).bind fun t719=>(some t719))) else (some false)) = some r:=H
    have A9:=aM_ A90
    clear A90
    by_cases c10 : t715 = true
    ·subst c10
     have H1 : ((impl_EncodeRow.f k t701 t707).bind fun t716=>((laws_sameBytes.f k t716 t702).bind fun t719=>(some t719))) = some r:=by rw [if_pos rfl] at H;exact H
     clear H
     have H:=H1
     clear H1
     replace H:=oB_ H
     obtain ⟨t716,A110,H⟩:=H
     replace H : ((laws_sameBytes.f k t716 t702).bind fun t719=>(some t719)) = some r:=H
     have A11:=aM_ A110
     clear A110
     replace H:=oB_ H
     obtain ⟨t719,A120,H⟩:=H
     replace H : (some t719) = some r:=H
     have A12:=aM_ A120
     clear A120
     obtain rfl:=Option.some.inj H
     go_enter Try.func9,Try.ntmps9
     go_wp2_with (first | ((with_reducible refine gate_callee (f:=25) rfl ?_);refine goesL_ (some 10) rfl rfl Try.func25 (by kernel_rfl) rfl #[.slice A0 l0.length c0] rfl (by (try simp only [mA_,mC_,mN_]);first | done | rfl | (simp only [lD_,lT_];rfl)) ?_;(with_reducible refine (laws_big.calls _ _ l0 false _ ?side1 ?side2 A2.out).mono ?_);(case side1=>repeat (first | exact HR0.out | (with_reducible refine cA_ ?_ _) | (with_reducible refine cN_ ?_ _) | (with_reducible refine cD_ ?_)));(case side2=>exact HC0.out);rintro e w' ⟨rfl,⟨nd,rfl⟩⟩;refine ⟨_,rfl,?_⟩) | ((with_reducible refine gate_callee (f:=52) rfl ?_);refine goesL_ (some 13) rfl rfl Try.func52 (by kernel_rfl) rfl #[.slice A0 l0.length c0] rfl (by (try simp only [mA_,mC_,mN_]);first | done | rfl | (simp only [lD_,lT_];rfl)) ?_;(with_reducible refine (spec_DrawDecodeRow.calls k _ _ l0 t701 t702 _ ?side1 ?side2 A4.out).mono ?_);(case side1=>repeat (first | exact HR0.out | (with_reducible refine cA_ ?_ _) | (with_reducible refine cN_ ?_ _) | (with_reducible refine cD_ ?_)));(case side2=>exact HC0.out);rintro e w13 ⟨v703,v705,rfl,ho0,ho1,hb⟩;refine ⟨_,rfl,?_⟩;have n0_:=aM_ (Kd.R_lower ho0 (bS_ (by exact bZ_ HB)));have n1_:=aM_ (Kd.R_lower ho1 (bS_ (by exact bZ_ HB)));have n2_:=aM_ (bT_ (by exact bZ_ HB) hb);clear HB;have HO704:=n0_;have HO706:=n1_;have HB:=n2_;clear n0_ n1_ n2_;(try clear hb);(try clear hb2);(try clear hk);(try clear hi);(try clear ho0);(try clear ho1);obtain ⟨Ao14,co14,eo14⟩:=Kd.R_slice HO704.out;subst eo14;obtain ⟨Ao15,co15,eo15⟩:=Kd.R_slice HO706.out;subst eo15) | ((with_reducible refine gate_callee (f:=47) rfl ?_);refine goesL_ (some 19) rfl rfl Try.func47 (by kernel_rfl) rfl #[.slice Ao14 t701.length co14,.slice Ao15 t702.length co15] rfl (by (try simp only [mA_,mC_,mN_]);first | done | rfl | (simp only [lD_,lT_];rfl)) ?_;(with_reducible refine (impl_DecodeRow.calls k _ _ t701 _ _ t702 t707 true _ ?side1 ?side2 ?side3 ?side4 A5.out).mono ?_);(case side1=>repeat (first | exact (Kd.R_reads' HO704.out).2.2 | (with_reducible refine cA_ ?_ _) | (with_reducible refine cN_ ?_ _) | (with_reducible refine cD_ ?_)));(case side2=>exact (Kd.R_reads' HO704.out).2.1);(case side3=>repeat (first | exact (Kd.R_reads' HO706.out).2.2 | (with_reducible refine cA_ ?_ _) | (with_reducible refine cN_ ?_ _) | (with_reducible refine cD_ ?_)));(case side4=>exact (Kd.R_reads' HO706.out).2.1);rintro e w16 ⟨v709,rfl,ho0,hb⟩;refine ⟨_,rfl,?_⟩;have n0_:=aM_ (Kd.R_below (by exact rZ_ HO704) hb);have n1_:=aM_ (Kd.R_below (by exact rZ_ HO706) hb);have n2_:=aM_ (Kd.R_lower ho0 (bS_ (by exact bZ_ HB)));have n3_:=aM_ (bT_ (by exact bZ_ HB) hb);clear HO704;clear HO706;clear HB;have HO704:=n0_;have HO706:=n1_;have HO710:=n2_;have HB:=n3_;clear n0_ n1_ n2_ n3_;(try clear hb);(try clear hb2);(try clear hk);(try clear hi);(try clear ho0)) | ((with_reducible refine gate_callee (f:=50) rfl ?_);refine goesL_ (some 25) rfl rfl Try.func50 (by kernel_rfl) rfl #[.slice Ao14 t701.length co14,.slice Ao15 t702.length co15] rfl (by (try simp only [mA_,mC_,mN_]);first | done | rfl | (simp only [lD_,lT_];rfl)) ?_;(with_reducible refine (spec_DecodeRow.calls k _ _ t701 _ _ t702 t711 t712 _ ?side1 ?side2 ?side3 ?side4 A6.out).mono ?_);(case side1=>repeat (first | exact (Kd.R_reads' HO704.out).2.2 | (with_reducible refine cA_ ?_ _) | (with_reducible refine cN_ ?_ _) | (with_reducible refine cD_ ?_)));(case side2=>exact (Kd.R_reads' HO704.out).2.1);(case side3=>repeat (first | exact (Kd.R_reads' HO706.out).2.2 | (with_reducible refine cA_ ?_ _) | (with_reducible refine cN_ ?_ _) | (with_reducible refine cD_ ?_)));(case side4=>exact (Kd.R_reads' HO706.out).2.1);rintro e w17 ⟨v713,rfl,ho0,hb⟩;refine ⟨_,rfl,?_⟩;have n0_:=aM_ (Kd.R_below (by exact rZ_ HO704) hb);have n1_:=aM_ (Kd.R_below (by exact rZ_ HO706) hb);have n2_:=aM_ (Kd.R_elder' (by exact rZ_ HO710) (Kd.R_base ho0) hb);have n3_:=aM_ (Kd.R_lower (Kd.R_new' ho0 (Kd.R_lt (by exact rZ_ HO710))) (bS_ (by exact bZ_ HB)));have n4_:=aM_ (bT_ (by exact bZ_ HB) hb);clear HO704;clear HO706;clear HO710;clear HB;have HO704:=n0_;have HO706:=n1_;have HO710:=n2_;have HO714:=n3_;have HB:=n4_;clear n0_ n1_ n2_ n3_ n4_;(try clear hb);(try clear hb2);(try clear hk);(try clear hi);(try clear ho0);obtain ⟨Ao18,co18,eo18⟩:=Kd.R_slice HO710.out;subst eo18) | (go_at_call 46;(with_reducible refine (impl_RowOk.calls k _ _ t701 _ _ t707 true _ ?side1 ?side2 ?side3 ?side4 A9.out).mono ?_);(case side1=>repeat (first | exact (Kd.R_reads' HO704.out).2.2 | (with_reducible refine cA_ ?_ _) | (with_reducible refine cN_ ?_ _) | (with_reducible refine cD_ ?_)));(case side2=>exact (Kd.R_reads' HO704.out).2.1);(case side3=>repeat (first | exact (Kd.R_reads' HO710.out).2.2 | (with_reducible refine cA_ ?_ _) | (with_reducible refine cN_ ?_ _) | (with_reducible refine cD_ ?_)));(case side4=>exact (Kd.R_reads' HO710.out).2.1);rintro e w19 ⟨rfl,hb⟩;have n0_:=aM_ (Kd.R_below (by exact rZ_ HO704) hb);have n1_:=aM_ (Kd.R_below (by exact rZ_ HO706) hb);have n2_:=aM_ (Kd.R_below (by exact rZ_ HO710) hb);have n3_:=aM_ (Kd.R_below (by exact rZ_ HO714) hb);have n4_:=aM_ (bT_ (by exact bZ_ HB) hb);clear HO704;clear HO706;clear HO710;clear HO714;clear HB;have HO704:=n0_;have HO706:=n1_;have HO710:=n2_;have HO714:=n3_;have HB:=n4_;clear n0_ n1_ n2_ n3_ n4_;(try clear hb);(try clear hb2);(try clear hk);(try clear hi)) | (go_at_call 39;(with_reducible refine (impl_EncodeRow.calls k _ _ t701 _ _ t707 t716 _ ?side1 ?side2 ?side3 ?side4 A11.out).mono ?_);(case side1=>repeat (first | exact (Kd.R_reads' HO704.out).2.2 | (with_reducible refine cA_ ?_ _) | (with_reducible refine cN_ ?_ _) | (with_reducible refine cD_ ?_)));(case side2=>exact (Kd.R_reads' HO704.out).2.1);(case side3=>repeat (first | exact (Kd.R_reads' HO710.out).2.2 | (with_reducible refine cA_ ?_ _) | (with_reducible refine cN_ ?_ _) | (with_reducible refine cD_ ?_)));(case side4=>exact (Kd.R_reads' HO710.out).2.1);rintro e w20 ⟨v717,rfl,ho0,hb⟩;have n0_:=aM_ (Kd.R_below (by exact rZ_ HO704) hb);have n1_:=aM_ (Kd.R_elder' (by exact rZ_ HO706) (Kd.R_base ho0) hb);have n2_:=aM_ (Kd.R_below (by exact rZ_ HO710) hb);have n3_:=aM_ (Kd.R_below (by exact rZ_ HO714) hb);have n4_:=aM_ (Kd.R_lower (Kd.R_new' ho0 (Kd.R_lt (by exact rZ_ HO706))) (bS_ (by exact bZ_ HB)));have n5_:=aM_ (bT_ (by exact bZ_ HB) hb);clear HO704;clear HO706;clear HO710;clear HO714;clear HB;have HO704:=n0_;have HO706:=n1_;have HO710:=n2_;have HO714:=n3_;have HO718:=n4_;have HB:=n5_;clear n0_ n1_ n2_ n3_ n4_ n5_;(try clear hb);(try clear hb2);(try clear hk);(try clear hi);(try clear ho0);obtain ⟨Ao21,co21,eo21⟩:=Kd.R_slice HO718.out;subst eo21) | (go_at_call 29;(with_reducible refine (laws_sameBytes.calls k _ _ t716 _ _ t702 t719 _ ?side1 ?side2 ?side3 ?side4 A12.out).mono ?_);(case side1=>repeat (first | exact (Kd.R_reads' HO718.out).2.2 | (with_reducible refine cA_ ?_ _) | (with_reducible refine cN_ ?_ _) | (with_reducible refine cD_ ?_)));(case side2=>exact (Kd.R_reads' HO718.out).2.1);(case side3=>repeat (first | exact (Kd.R_reads' HO706.out).2.2 | (with_reducible refine cA_ ?_ _) | (with_reducible refine cN_ ?_ _) | (with_reducible refine cD_ ?_)));(case side4=>exact (Kd.R_reads' HO706.out).2.1);rintro e w' ⟨rfl,⟨nd,rfl⟩⟩))
     go_ret
     exact ⟨by first | rfl | (simp [errW_none,errW_some] <;> rfl) | (simp [*, errW_none,errW_some] <;> rfl),by exact bZ_ HB⟩
    ·replace c10:=Bool.eq_false_iff.mpr c10
     subst c10
     have H1 : (some false) = some r:=by rw [if_neg (show ¬ (false = true) by decide)] at H;exact H
     clear H
     have H:=H1
     clear H1
     exact absurd (H.trans (congrArg some hr_.out)) (by simp)
   ·replace c8:=Bool.eq_false_iff.mpr c8
    subst c8
    have H1 : (if (t707.length : Int) = 0 then (some true) else (some false)) = some r:=by rw [if_neg (show ¬ (false = true) by decide)] at H;exact H
    clear H
    have H:=H1
    clear H1
    by_cases c22 : (t707.length : Int) = 0
    ·rw [if_pos c22] at H
     have c22b0 : ((t707.length : Int) == 0) = true:=beq_iff_eq.mpr c22
     have c22b1 : ((t707.length : Int) != 0) = false:=bne_eq_false_iff_eq.mpr c22
     clear c22
     obtain rfl:=Option.some.inj H
     go_enter Try.func9,Try.ntmps9
     go_wp2_with (first | ((with_reducible refine gate_callee (f:=25) rfl ?_);refine goesL_ (some 10) rfl rfl Try.func25 (by kernel_rfl) rfl #[.slice A0 l0.length c0] rfl (by (try simp only [mA_,mC_,mN_]);first | done | rfl | (simp only [lD_,lT_];rfl)) ?_;(with_reducible refine (laws_big.calls _ _ l0 false _ ?side1 ?side2 A2.out).mono ?_);(case side1=>repeat (first | exact HR0.out | (with_reducible refine cA_ ?_ _) | (with_reducible refine cN_ ?_ _) | (with_reducible refine cD_ ?_)));(case side2=>exact HC0.out);rintro e w' ⟨rfl,⟨nd,rfl⟩⟩;refine ⟨_,rfl,?_⟩) | ((with_reducible refine gate_callee (f:=52) rfl ?_);refine goesL_ (some 13) rfl rfl Try.func52 (by kernel_rfl) rfl #[.slice A0 l0.length c0] rfl (by (try simp only [mA_,mC_,mN_]);first | done | rfl | (simp only [lD_,lT_];rfl)) ?_;(with_reducible refine (spec_DrawDecodeRow.calls k _ _ l0 t701 t702 _ ?side1 ?side2 A4.out).mono ?_);(case side1=>repeat (first | exact HR0.out | (with_reducible refine cA_ ?_ _) | (with_reducible refine cN_ ?_ _) | (with_reducible refine cD_ ?_)));(case side2=>exact HC0.out);rintro e w23 ⟨v703,v705,rfl,ho0,ho1,hb⟩;refine ⟨_,rfl,?_⟩;have n0_:=aM_ (Kd.R_lower ho0 (bS_ (by exact bZ_ HB)));have n1_:=aM_ (Kd.R_lower ho1 (bS_ (by exact bZ_ HB)));have n2_:=aM_ (bT_ (by exact bZ_ HB) hb);clear HB;have HO704:=n0_;have HO706:=n1_;have HB:=n2_;clear n0_ n1_ n2_;(try clear hb);(try clear hb2);(try clear hk);(try clear hi);(try clear ho0);(try clear ho1);obtain ⟨Ao24,co24,eo24⟩:=Kd.R_slice HO704.out;subst eo24;obtain ⟨Ao25,co25,eo25⟩:=Kd.R_slice HO706.out;subst eo25) | ((with_reducible refine gate_callee (f:=47) rfl ?_);refine goesL_ (some 19) rfl rfl Try.func47 (by kernel_rfl) rfl #[.slice Ao24 t701.length co24,.slice Ao25 t702.length co25] rfl (by (try simp only [mA_,mC_,mN_]);first | done | rfl | (simp only [lD_,lT_];rfl)) ?_;(with_reducible refine (impl_DecodeRow.calls k _ _ t701 _ _ t702 t707 false _ ?side1 ?side2 ?side3 ?side4 A5.out).mono ?_);(case side1=>repeat (first | exact (Kd.R_reads' HO704.out).2.2 | (with_reducible refine cA_ ?_ _) | (with_reducible refine cN_ ?_ _) | (with_reducible refine cD_ ?_)));(case side2=>exact (Kd.R_reads' HO704.out).2.1);(case side3=>repeat (first | exact (Kd.R_reads' HO706.out).2.2 | (with_reducible refine cA_ ?_ _) | (with_reducible refine cN_ ?_ _) | (with_reducible refine cD_ ?_)));(case side4=>exact (Kd.R_reads' HO706.out).2.1);rintro e w26 ⟨v709,rfl,ho0,hb⟩;refine ⟨_,rfl,?_⟩;have n0_:=aM_ (Kd.R_below (by exact rZ_ HO704) hb);have n1_:=aM_ (Kd.R_below (by exact rZ_ HO706) hb);have n2_:=aM_ (Kd.R_lower ho0 (bS_ (by exact bZ_ HB)));have n3_:=aM_ (bT_ (by exact bZ_ HB) hb);clear HO704;clear HO706;clear HB;have HO704:=n0_;have HO706:=n1_;have HO710:=n2_;have HB:=n3_;clear n0_ n1_ n2_ n3_;(try clear hb);(try clear hb2);(try clear hk);(try clear hi);(try clear ho0)) | ((with_reducible refine gate_callee (f:=50) rfl ?_);refine goesL_ (some 25) rfl rfl Try.func50 (by kernel_rfl) rfl #[.slice Ao24 t701.length co24,.slice Ao25 t702.length co25] rfl (by (try simp only [mA_,mC_,mN_]);first | done | rfl | (simp only [lD_,lT_];rfl)) ?_;(with_reducible refine (spec_DecodeRow.calls k _ _ t701 _ _ t702 t711 t712 _ ?side1 ?side2 ?side3 ?side4 A6.out).mono ?_);(case side1=>repeat (first | exact (Kd.R_reads' HO704.out).2.2 | (with_reducible refine cA_ ?_ _) | (with_reducible refine cN_ ?_ _) | (with_reducible refine cD_ ?_)));(case side2=>exact (Kd.R_reads' HO704.out).2.1);(case side3=>repeat (first | exact (Kd.R_reads' HO706.out).2.2 | (with_reducible refine cA_ ?_ _) | (with_reducible refine cN_ ?_ _) | (with_reducible refine cD_ ?_)));(case side4=>exact (Kd.R_reads' HO706.out).2.1);rintro e w27 ⟨v713,rfl,ho0,hb⟩;refine ⟨_,rfl,?_⟩;have n0_:=aM_ (Kd.R_below (by exact rZ_ HO704) hb);have n1_:=aM_ (Kd.R_below (by exact rZ_ HO706) hb);have n2_:=aM_ (Kd.R_elder' (by exact rZ_ HO710) (Kd.R_base ho0) hb);have n3_:=aM_ (Kd.R_lower (Kd.R_new' ho0 (Kd.R_lt (by exact rZ_ HO710))) (bS_ (by exact bZ_ HB)));have n4_:=aM_ (bT_ (by exact bZ_ HB) hb);clear HO704;clear HO706;clear HO710;clear HB;have HO704:=n0_;have HO706:=n1_;have HO710:=n2_;have HO714:=n3_;have HB:=n4_;clear n0_ n1_ n2_ n3_ n4_;(try clear hb);(try clear hb2);(try clear hk);(try clear hi);(try clear ho0);obtain ⟨Ao28,co28,eo28⟩:=Kd.R_slice HO710.out;subst eo28))
     go_ret
     exact ⟨by first | rfl | (simp [errW_none,errW_some] <;> rfl) | (simp [*, errW_none,errW_some] <;> rfl),by exact bZ_ HB⟩
    ·rw [if_neg c22] at H
     have c22b0 : ((t707.length : Int) == 0) = false:=beq_eq_false_iff_ne.mpr c22
     have c22b1 : ((t707.length : Int) != 0) = true:=bne_iff_ne.mpr c22
     have c22b2 : ¬ (t707 = []):=fun h_=>c22 (by rw [h_];rfl)
     exact absurd (H.trans (congrArg some hr_.out)) (by simp)
  ·rw [if_neg c7] at H
   have c7b0 : (t708 == t712) = false:=by simpa using c7
   (try (have c7b1 : decide (t708 = t712) = false:=by simpa using c7))
   (try (have c7b2 : (t708 == t712) = false:=by simpa using c7))
   (try (have c7b3 : ¬ (t708 = t712):=by simpa using c7))
   clear c7
   exact absurd (H.trans (congrArg some hr_.out)) (by simp)
end Go.Proofs.Ytllgmgpfdnofmaa.PFnRowsRead
