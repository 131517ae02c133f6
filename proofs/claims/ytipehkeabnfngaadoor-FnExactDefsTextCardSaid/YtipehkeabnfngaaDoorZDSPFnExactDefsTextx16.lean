import Derived.Test.YtipehkeabnfngaaDoorZDSPFnExactDefsTextx0
import Derived.Test.YtipehkeabnfngaaDoorZDSPFnExactDefsTextx11
import Derived.Test.YtipehkeabnfngaaDoorZDSPFnExactDefsTextx14
import Derived.Test.YtipehkeabnfngaaDoorZDSPFnExactDefsTextx15
namespace Go.Proofs.YtipehkeabnfngaaDoor.PFnExactDefsText
open Go.RowKit Go.Proofs.YtipehkeabnfngaaDoorW.PrintWords Go.Proofs.YtipehkeabnfngaaDoorW.PrintLast Go.Proofs.YtipehkeabnfngaaDoorW.PrintMore Go.Proofs.YtipehkeabnfngaaDoor.Xtra
attribute [local go_sem] max2_int min2_int max_two min_two max_three min_three max_four min_four str_leq str_gtr str_geq setCell_drewN cell_set2 cell_set3   -- for this text's walks alone
set_option linter.unusedVariables false
set_option linter.unusedSimpArgs false
mutual
def impl_DefText.l0 : Nat → ByteArray → List (S82) → Int → Int → ByteArray → List (S82) → List (S85) → List (S69) → Option (ByteArray)
 | 0,_,_,_,_,_,_,_,_=>none
 | k + 1,x3,x17,x18,x19,x344000,x344001,x344002,x344003=>if x19 < x18 then (if 0 ≤ x19 then (if x19 < (x17.length : Int) then (if ((rd_T82 x17 x19).f0).size + 1 ≤ 9223372036854775807 then ((strings_Split.f (⟨#[32,105,110,116,32,110,117,109,32,116,101,120,116,32,98,111,111,108]⟩ : ByteArray) (⟨#[32]⟩ : ByteArray)).bind fun t347=>(if 0 ≤ ((rd_T82 x17 x19).f1) then (if ((rd_T82 x17 x19).f1) < (t347.length : Int) then (if (((rd_T82 x17 x19).f0) ++ (⟨#[32]⟩ : ByteArray)).size + (rdOf ByteArray.empty t347 ((rd_T82 x17 x19).f1)).size ≤ 9223372036854775807 then (if x3.size + ((((rd_T82 x17 x19).f0) ++ (⟨#[32]⟩ : ByteArray)) ++ (rdOf ByteArray.empty t347 ((rd_T82 x17 x19).f1))).size ≤ 9223372036854775807 then (if (rd_T82 x17 x19).f2 = true then (if (x3 ++ ((((rd_T82 x17 x19).f0) ++ (⟨#[32]⟩ : ByteArray)) ++ (rdOf ByteArray.empty t347 ((rd_T82 x17 x19).f1)))).size + 5 ≤ 9223372036854775807 then (if ((x3 ++ ((((rd_T82 x17 x19).f0) ++ (⟨#[32]⟩ : ByteArray)) ++ (rdOf ByteArray.empty t347 ((rd_T82 x17 x19).f1)))) ++ (⟨#[32,110,117,108,108]⟩ : ByteArray)).size + 2 ≤ 9223372036854775807 then (impl_DefText.l0 k (((x3 ++ ((((rd_T82 x17 x19).f0) ++ (⟨#[32]⟩ : ByteArray)) ++ (rdOf ByteArray.empty t347 ((rd_T82 x17 x19).f1)))) ++ (⟨#[32,110,117,108,108]⟩ : ByteArray)) ++ (⟨#[59,32]⟩ : ByteArray)) x17 x18 (wrap64 (x19 + 1)) x344000 x344001 x344002 x344003) else (none)) else (none)) else (if (x3 ++ ((((rd_T82 x17 x19).f0) ++ (⟨#[32]⟩ : ByteArray)) ++ (rdOf ByteArray.empty t347 ((rd_T82 x17 x19).f1)))).size + 2 ≤ 9223372036854775807 then (impl_DefText.l0 k ((x3 ++ ((((rd_T82 x17 x19).f0) ++ (⟨#[32]⟩ : ByteArray)) ++ (rdOf ByteArray.empty t347 ((rd_T82 x17 x19).f1)))) ++ (⟨#[59,32]⟩ : ByteArray)) x17 x18 (wrap64 (x19 + 1)) x344000 x344001 x344002 x344003) else (none))) else (none)) else (none)) else (none)) else (none))) else (none)) else (none)) else (none)) else ((impl_partsText.f k x344000 x344001 x344002 x344003 x344002).bind fun t351=>(if 8 + t351.size ≤ 9223372036854775807 then (if x3.size + ((⟨#[112,114,105,109,97,114,121,32]⟩ : ByteArray) ++ t351).size ≤ 9223372036854775807 then (impl_DefText.l1 k (x3 ++ ((⟨#[112,114,105,109,97,114,121,32]⟩ : ByteArray) ++ t351)) x344003 (x344003.length : Int) 0 x344000 x344001 x344002 x344003) else (none)) else (none)))
def impl_DefText.l1 : Nat → ByteArray → List (S69) → Int → Int → ByteArray → List (S82) → List (S85) → List (S69) → Option (ByteArray)
 | 0,_,_,_,_,_,_,_,_=>none
 | k + 1,x3,x49,x50,x51,x344000,x344001,x344002,x344003=>if x51 < x50 then (if 0 ≤ x51 then (if x51 < (x49.length : Int) then (if (rd_T69 x49 x51).f1 = true then (if 7 + ((rd_T69 x49 x51).f0).size ≤ 9223372036854775807 then (if ((⟨#[117,110,105,113,117,101,32]⟩ : ByteArray) ++ ((rd_T69 x49 x51).f0)).size + 1 ≤ 9223372036854775807 then ((impl_partsText.f k x344000 x344001 x344002 x344003 ((rd_T69 x49 x51).f2)).bind fun t354=>(if (((⟨#[117,110,105,113,117,101,32]⟩ : ByteArray) ++ ((rd_T69 x49 x51).f0)) ++ (⟨#[32]⟩ : ByteArray)).size + t354.size ≤ 9223372036854775807 then (if x3.size + ((((⟨#[117,110,105,113,117,101,32]⟩ : ByteArray) ++ ((rd_T69 x49 x51).f0)) ++ (⟨#[32]⟩ : ByteArray)) ++ t354).size ≤ 9223372036854775807 then (impl_DefText.l1 k (x3 ++ ((((⟨#[117,110,105,113,117,101,32]⟩ : ByteArray) ++ ((rd_T69 x49 x51).f0)) ++ (⟨#[32]⟩ : ByteArray)) ++ t354)) x49 x50 (wrap64 (x51 + 1)) x344000 x344001 x344002 x344003) else (none)) else (none))) else (none)) else (none)) else (if 6 + ((rd_T69 x49 x51).f0).size ≤ 9223372036854775807 then (if ((⟨#[105,110,100,101,120,32]⟩ : ByteArray) ++ ((rd_T69 x49 x51).f0)).size + 1 ≤ 9223372036854775807 then ((impl_partsText.f k x344000 x344001 x344002 x344003 ((rd_T69 x49 x51).f2)).bind fun t355=>(if (((⟨#[105,110,100,101,120,32]⟩ : ByteArray) ++ ((rd_T69 x49 x51).f0)) ++ (⟨#[32]⟩ : ByteArray)).size + t355.size ≤ 9223372036854775807 then (if x3.size + ((((⟨#[105,110,100,101,120,32]⟩ : ByteArray) ++ ((rd_T69 x49 x51).f0)) ++ (⟨#[32]⟩ : ByteArray)) ++ t355).size ≤ 9223372036854775807 then (impl_DefText.l1 k (x3 ++ ((((⟨#[105,110,100,101,120,32]⟩ : ByteArray) ++ ((rd_T69 x49 x51).f0)) ++ (⟨#[32]⟩ : ByteArray)) ++ t355)) x49 x50 (wrap64 (x51 + 1)) x344000 x344001 x344002 x344003) else (none)) else (none))) else (none)) else (none))) else (none)) else (none)) else (if x3.size + 1 ≤ 9223372036854775807 then (some (x3 ++ (⟨#[125]⟩ : ByteArray))) else (none))
end
def impl_DefText.f (k : Nat) (a0_0 : ByteArray) (l0_1 : List (S82)) (l0_2 : List (S85)) (l0_3 : List (S69)) : Option (ByteArray):=(impl_CheckDef.f k a0_0 l0_1 l0_2 l0_3).bind fun t344=>(if t344 = 0 then (if 6 + a0_0.size ≤ 9223372036854775807 then (if ((⟨#[116,97,98,108,101,32]⟩ : ByteArray) ++ a0_0).size + 3 ≤ 9223372036854775807 then (impl_DefText.l0 k (((⟨#[116,97,98,108,101,32]⟩ : ByteArray) ++ a0_0) ++ (⟨#[32,123,32]⟩ : ByteArray)) l0_1 (l0_1.length : Int) 0 a0_0 l0_1 l0_2 l0_3) else (none)) else (none)) else (some (⟨#[]⟩ : ByteArray)))
theorem impl_DefText.mono_l : ∀ k,(∀ y0 y1 y2 y3 y4 y5 y6 y7,LeO (impl_DefText.l0 k y0 y1 y2 y3 y4 y5 y6 y7) (impl_DefText.l0 (k + 1) y0 y1 y2 y3 y4 y5 y6 y7)) ∧ (∀ y0 y1 y2 y3 y4 y5 y6 y7,LeO (impl_DefText.l1 k y0 y1 y2 y3 y4 y5 y6 y7) (impl_DefText.l1 (k + 1) y0 y1 y2 y3 y4 y5 y6 y7))
 | 0=>⟨fun _ _ _ _ _ _ _ _ r h=>by simp [impl_DefText.l0] at h,fun _ _ _ _ _ _ _ _ r h=>by simp [impl_DefText.l1] at h⟩
 | k + 1=>by
  obtain ⟨ih0,ih1⟩:=impl_DefText.mono_l k
  refine ⟨?_,?_⟩
  ·intro y0 y1 y2 y3 y4 y5 y6 y7
   unfold impl_DefText.l0
   repeat' first
   | (with_reducible exact ih0 _ _ _ _ _ _ _ _)
   | (with_reducible exact ih1 _ _ _ _ _ _ _ _)
   | (with_reducible exact impl_CheckDef.mono _ _ _ _ _)
   | (with_reducible exact impl_partsText.mono _ _ _ _ _ _)
   | (with_reducible exact LeO.refl _)
   | (with_reducible exact LeO.none _)
   | (with_reducible refine LeO.ite ?_ ?_)
   | (with_reducible refine LeO.bind ?_ (fun _=>?_))
   | exact ih0 _ _ _ _ _ _ _ _
   | exact ih1 _ _ _ _ _ _ _ _
   | exact impl_CheckDef.mono _ _ _ _ _
   | exact impl_partsText.mono _ _ _ _ _ _
   | exact LeO.none _
   | refine LeO.ite ?_ ?_
   | refine LeO.bind ?_ (fun _=>?_)
  ·intro y0 y1 y2 y3 y4 y5 y6 y7
   unfold impl_DefText.l1
   repeat' first
   | (with_reducible exact ih0 _ _ _ _ _ _ _ _)
   | (with_reducible exact ih1 _ _ _ _ _ _ _ _)
   | (with_reducible exact impl_CheckDef.mono _ _ _ _ _)
   | (with_reducible exact impl_partsText.mono _ _ _ _ _ _)
   | (with_reducible exact LeO.refl _)
   | (with_reducible exact LeO.none _)
   | (with_reducible refine LeO.ite ?_ ?_)
   | (with_reducible refine LeO.bind ?_ (fun _=>?_))
   | exact ih0 _ _ _ _ _ _ _ _
   | exact ih1 _ _ _ _ _ _ _ _
   | exact impl_CheckDef.mono _ _ _ _ _
   | exact impl_partsText.mono _ _ _ _ _ _
   | exact LeO.none _
   | refine LeO.ite ?_ ?_
   | refine LeO.bind ?_ (fun _=>?_)
theorem impl_DefText.mono : ∀ a0 a1 a2 a3 k,LeO (impl_DefText.f k a0 a1 a2 a3) (impl_DefText.f (k + 1) a0 a1 a2 a3):=by
 intro a0 a1 a2 a3 k
 obtain ⟨ih0,ih1⟩:=impl_DefText.mono_l k
 unfold impl_DefText.f
 repeat' first
   | (with_reducible exact ih0 _ _ _ _ _ _ _ _)
   | (with_reducible exact ih1 _ _ _ _ _ _ _ _)
   | (with_reducible exact impl_CheckDef.mono _ _ _ _ _)
   | (with_reducible exact impl_partsText.mono _ _ _ _ _ _)
   | (with_reducible exact LeO.refl _)
   | (with_reducible exact LeO.none _)
   | (with_reducible refine LeO.ite ?_ ?_)
   | (with_reducible refine LeO.bind ?_ (fun _=>?_))
   | exact ih0 _ _ _ _ _ _ _ _
   | exact ih1 _ _ _ _ _ _ _ _
   | exact impl_CheckDef.mono _ _ _ _ _
   | exact impl_partsText.mono _ _ _ _ _ _
   | exact LeO.none _
   | refine LeO.ite ?_ ?_
   | refine LeO.bind ?_ (fun _=>?_)
def impl_DefText.T7 : Bool × List (List Nat × List Nat):=(true,[([],[]),([],[]),([1],[1]),([2],[2]),([],[]),([],[]),([5],[5]),([4,6],[4,6]),([7],[7]),([3,8],[3,8]),([0,9],[0,9]),([10,4,0,1,2,3,4,5,6,7,8,9,10],[0,10])])
def impl_DefText.B7 : List Nat:=[0,0,2,6,0,0,32,112,240,510,1023,2047]
theorem impl_DefText.tab7 : rtab .any (opsOf Tryd.f24 7) = impl_DefText.T7:=by kernel_rfl
theorem impl_DefText.bits7 : waitsOk impl_DefText.T7.2 impl_DefText.B7 = true:=by kernel_rfl
def impl_DefText.T19 : Bool × List (List Nat × List Nat):=(true,[([],[]),([],[]),([],[]),([2],[2]),([1,3],[1,3]),([4],[4]),([],[]),([],[]),([7],[7]),([6,8],[6,8]),([5,9],[5,9]),([0,10],[0,10]),([11,9,0,1,2,3,4,5,6,7,8,9,10,11],[0,11])])
def impl_DefText.B19 : List Nat:=[0,0,0,4,14,30,0,0,128,448,1022,2047,4095]
theorem impl_DefText.tab19 : rtab .any (opsOf Tryd.f24 19) = impl_DefText.T19:=by kernel_rfl
theorem impl_DefText.bits19 : waitsOk impl_DefText.T19.2 impl_DefText.B19 = true:=by kernel_rfl
set_option maxHeartbeats 8000000 in
set_option maxRecDepth 100000 in
theorem impl_DefText.calls (k : Nat) (a0_0 : ByteArray) (A0_1 : Option Addr) (c0_1 : Nat) (l0_1 : List (S82)) (A0_2 : Option Addr) (c0_2 : Nat) (l0_2 : List (S85)) (A0_3 : Option Addr) (c0_3 : Nat) (l0_3 : List (S69)) (r : ByteArray) (w : World) (hr0_1 : Kd.C k82 w A0_1 l0_1.length l0_1) (hc0_1 : l0_1.length ≤ c0_1) (hr0_2 : Kd.C k85 w A0_2 l0_2.length l0_2) (hc0_2 : l0_2.length ≤ c0_2) (hr0_3 : Kd.C k69 w A0_3 l0_3.length l0_3) (hc0_3 : l0_3.length ≤ c0_3) (h : impl_DefText.f k a0_0 l0_1 l0_2 l0_3 = some r) :
  Calls Tryd.prog 24 #[.agg #[.string a0_0,.slice A0_1 l0_1.length c0_1,.slice A0_2 l0_2.length c0_2,.slice A0_3 l0_3.length c0_3]] w fun e w'=>e = .returned (.string r) ∧ Below w.heap.size w w':=by
 have hu35:=Tryd.underlying35
 have hu82:=Tryd.underlying82
 have hu69:=Tryd.underlying69
 have HR0_1:=aM_ hr0_1
 have HC0_1:=aM_ hc0_1
 clear hr0_1 hc0_1
 have HR0_2:=aM_ hr0_2
 have HC0_2:=aM_ hc0_2
 clear hr0_2 hc0_2
 have HR0_3:=aM_ hr0_3
 have HC0_3:=aM_ hc0_3
 clear hr0_3 hc0_3
 have HB:=aM_ (Below.refl w.heap.size w)
 have H : ((impl_CheckDef.f k a0_0 l0_1 l0_2 l0_3).bind fun t344=>(if t344 = 0 then (if 6 + a0_0.size ≤ 9223372036854775807 then (if ((⟨#[116,97,98,108,101,32]⟩ : ByteArray) ++ a0_0).size + 3 ≤ 9223372036854775807 then (impl_DefText.l0 k (((⟨#[116,97,98,108,101,32]⟩ : ByteArray) ++ a0_0) ++ (⟨#[32,123,32]⟩ : ByteArray)) l0_1 (l0_1.length : Int) 0 a0_0 l0_1 l0_2 l0_3) else (none)) else (none)) else (some (⟨#[]⟩ : ByteArray)))) = some r:=h
 clear h
 replace H:=oB_ H
 obtain ⟨t344,A20,H⟩:=H
 replace H : (if t344 = 0 then (if 6 + a0_0.size ≤ 9223372036854775807 then (if ((⟨#[116,97,98,108,101,32]⟩ : ByteArray) ++ a0_0).size + 3 ≤ 9223372036854775807 then (impl_DefText.l0 k (((⟨#[116,97,98,108,101,32]⟩ : ByteArray) ++ a0_0) ++ (⟨#[32,123,32]⟩ : ByteArray)) l0_1 (l0_1.length : Int) 0 a0_0 l0_1 l0_2 l0_3) else (none)) else (none)) else (some (⟨#[]⟩ : ByteArray))) = some r:=H
 have A2:=aM_ A20
 clear A20
 by_cases c3 : t344 = 0
 ·rw [if_pos c3] at H
  have c3b0 : (t344 == 0) = true:=beq_iff_eq.mpr c3
  have c3b1 : (t344 != 0) = false:=bne_eq_false_iff_eq.mpr c3
  clear c3
  by_cases c4 : 6 + a0_0.size ≤ 9223372036854775807
  ·rw [if_pos c4] at H
   have c4b0:=eq_true c4
   have c4b1 : decide (6 + a0_0.size ≤ 9223372036854775807) = true:=decide_eq_true c4
   try have c4b2 : (9223372036854775807 < 6 + a0_0.size) = False:=eq_false (Nat.not_lt.2 c4)
   by_cases c5 : ((⟨#[116,97,98,108,101,32]⟩ : ByteArray) ++ a0_0).size + 3 ≤ 9223372036854775807
   ·rw [if_pos c5] at H
    have c5b0:=eq_true c5
    have c5b1 : decide (((⟨#[116,97,98,108,101,32]⟩ : ByteArray) ++ a0_0).size + 3 ≤ 9223372036854775807) = true:=decide_eq_true c5
    try have c5b2 : (9223372036854775807 < ((⟨#[116,97,98,108,101,32]⟩ : ByteArray) ++ a0_0).size + 3) = False:=eq_false (Nat.not_lt.2 c5)
    have c5b3:=eq_false (Nat.not_lt.2 c5);(repeat rw [ByteArray.size_append] at c5b3);(try rw [show (⟨#[116,97,98,108,101,32]⟩ : ByteArray).size = 6 from rfl] at c5b3)
    have H':=aM_ H
    clear H
    go_enter Tryd.func24,Tryd.ntmps24
    go_wp2_with (first | ((with_reducible refine gate_dst (N:=1) rfl ?_);refine box_event ?hg (N:=1) ?hd (cs:=#[.string a0_0,.slice A0_1 l0_1.length c0_1,.slice A0_2 l0_2.length c0_2,.slice A0_3 l0_3.length c0_3]) (t:=35) ?hr ?_;(case hd=>rfl);(case hg=>rfl);(case hr=>first | (go_simp;done) | (go_simp;rfl));intro gb343 hg w6 hbox hb;have n0_:=aM_ (bT_ (by exact bZ_ HB) hb);have n1_:=aM_ (hbox);have n2_:=aM_ ((by rw [hg];exact (bS_ (by exact bZ_ HB)) : w.heap.size ≤ gb343));have n3_:=aM_ ((by rw [hg];exact (bS_ (by exact bZ_ HB)) : w.heap.size ≤ gb343));clear HB;have HB:=n0_;have BK343:=n1_;have GW343:=n2_;have GE343:=n3_;clear n0_ n1_ n2_ n3_ hb hbox hg;have hcz7_0 : w6.cell? ⟨gb343,0,none⟩ = some (.string a0_0):=(kC_ BK343.out 0).trans rfl;have hcz7_1 : w6.cell? ⟨gb343,1,none⟩ = some (.slice A0_1 l0_1.length c0_1):=(kC_ BK343.out 1).trans rfl;have hcz7_2 : w6.cell? ⟨gb343,2,none⟩ = some (.slice A0_2 l0_2.length c0_2):=(kC_ BK343.out 2).trans rfl;have hcz7_3 : w6.cell? ⟨gb343,3,none⟩ = some (.slice A0_3 l0_3.length c0_3):=(kC_ BK343.out 3).trans rfl;have hfz7_0:=kF_ BK343.out 0;have hfz7_1:=kF_ BK343.out 1;have hfz7_2:=kF_ BK343.out 2;have hfz7_3:=kF_ BK343.out 3) | ((with_reducible refine gate_callee (f:=21) rfl ?_);refine goesL_ (some 10) rfl rfl Tryd.func21 (by kernel_rfl) rfl #[.agg #[.string a0_0,.slice A0_1 l0_1.length c0_1,.slice A0_2 l0_2.length c0_2,.slice A0_3 l0_3.length c0_3]] rfl (by (try simp only [mA_,mC_,mN_]);first | done | rfl | (simp only [lD_,lT_];rfl)) ?_;(with_reducible refine (impl_CheckDef.calls k a0_0 _ _ l0_1 _ _ l0_2 _ _ l0_3 t344 _ ?side1 ?side2 ?side3 ?side4 ?side5 ?side6 A2.out).mono ?_);(case side1=>exact cZ_ HR0_1 HB);(case side2=>exact HC0_1.out);(case side3=>exact cZ_ HR0_2 HB);(case side4=>exact HC0_2.out);(case side5=>exact cZ_ HR0_3 HB);(case side6=>exact HC0_3.out);rintro e w8 ⟨rfl,hb⟩;refine ⟨_,rfl,?_⟩;have n0_:=aM_ (blk_below (g:=gb343) (o:=.cells #[.string a0_0,.slice A0_1 l0_1.length c0_1,.slice A0_2 l0_2.length c0_2,.slice A0_3 l0_3.length c0_3] 35 (0,0)) (by exact kZ_ BK343) hb);have n1_:=aM_ (bT_ (by exact bZ_ HB) hb);clear BK343 HB;have BK343:=n0_;have HB:=n1_;clear n0_ n1_ hb;have hcz9_0 : w8.cell? ⟨gb343,0,none⟩ = some (.string a0_0):=(kC_ BK343.out 0).trans rfl;have hcz9_1 : w8.cell? ⟨gb343,1,none⟩ = some (.slice A0_1 l0_1.length c0_1):=(kC_ BK343.out 1).trans rfl;have hcz9_2 : w8.cell? ⟨gb343,2,none⟩ = some (.slice A0_2 l0_2.length c0_2):=(kC_ BK343.out 2).trans rfl;have hcz9_3 : w8.cell? ⟨gb343,3,none⟩ = some (.slice A0_3 l0_3.length c0_3):=(kC_ BK343.out 3).trans rfl;have hfz9_0:=kF_ BK343.out 0;have hfz9_1:=kF_ BK343.out 1;have hfz9_2:=kF_ BK343.out 2;have hfz9_3:=kF_ BK343.out 3))
    (try simp only [Act.put,sI_,sS_,sZ_])
    go_loopg [3,19] k (fun kq v3 v19 w'=>∃ (x3_1 : ByteArray) (x19_1 : Int),v3 = .string x3_1 ∧ v19 = .int .i64 x19_1 ∧ Aside0 (impl_DefText.l0 kq x3_1 l0_1 (l0_1.length : Int) x19_1 a0_0 l0_1 l0_2 l0_3 = some r) ∧ Aside0 (kq ≤ k) ∧ Aside0 (w'.heap[gb343]? = some (.cells #[.string a0_0,(.slice A0_1 l0_1.length c0_1),(.slice A0_2 l0_2.length c0_2),(.slice A0_3 l0_3.length c0_3)] 35 (0,0))) ∧ Aside0 (Below w.heap.size w w'))
    case atStart=>exact ⟨(((⟨#[116,97,98,108,101,32]⟩ : ByteArray) ++ a0_0) ++ (⟨#[32,123,32]⟩ : ByteArray)),(0),(by first | rfl | (simp;done) | (simp [*];done)),(by first | rfl | (simp;done) | (simp [*];done)),H', ⟨Nat.le_refl _⟩,⟨by exact kZ_ BK343⟩,⟨by exact bZ_ HB⟩⟩
    case round =>
     clear H'
     clear c3b0 c3b1 c4 c4b0 c4b1 c4b2 c5 c5b0 c5b1 c5b2 hcz7_0 hcz7_1 hcz7_2 hcz7_3 hcz9_0 hcz9_1 hcz9_2 hcz9_3 hfz7_0 hfz7_1 hfz7_2 hfz7_3 hfz9_0 hfz9_1 hfz9_2 hfz9_3
     obtain ⟨x3_1,x19_1,rfl,rfl,HA,HK1,BK343,HB⟩:=hrel
     cases gk with
     | zero=>exact absurd HA.out (by simp [impl_DefText.l0])
     | succ k1 =>
      have H:=HA.out
      clear HA
      simp only [impl_DefText.l0] at H
      by_cases c10 : x19_1 < (l0_1.length : Int)
      ·rw [if_pos c10] at H
       have c10b0 : decide (x19_1 < (l0_1.length : Int)) = true:=decide_eq_true c10
       clear c10
       by_cases c11 : 0 ≤ x19_1
       ·rw [if_pos c11] at H
        have c11b0 : decide (0 ≤ x19_1) = true:=decide_eq_true c11
        clear c11
        by_cases c12 : x19_1 < (l0_1.length : Int)
        ·rw [if_pos c12] at H
         have c12b0 : decide (x19_1 < (l0_1.length : Int)) = true:=decide_eq_true c12
         clear c12
         by_cases c13 : ((rd_T82 l0_1 x19_1).f0).size + 1 ≤ 9223372036854775807
         ·rw [if_pos c13] at H
          have c13b0:=eq_true c13
          have c13b1 : decide (((rd_T82 l0_1 x19_1).f0).size + 1 ≤ 9223372036854775807) = true:=decide_eq_true c13
          try have c13b2 : (9223372036854775807 < ((rd_T82 l0_1 x19_1).f0).size + 1) = False:=eq_false (Nat.not_lt.2 c13)
          replace H:=oB_ H
          obtain ⟨t347,A140,H⟩:=H
          replace H : (if 0 ≤ ((rd_T82 l0_1 x19_1).f1) then (if ((rd_T82 l0_1 x19_1).f1) < (t347.length : Int) then (if (((rd_T82 l0_1 x19_1).f0) ++ (⟨#[32]⟩ : ByteArray)).size + (rdOf ByteArray.empty t347 ((rd_T82 l0_1 x19_1).f1)).size ≤ 9223372036854775807 then (if x3_1.size + ((((rd_T82 l0_1 x19_1).f0) ++ (⟨#[32]⟩ : ByteArray)) ++ (rdOf ByteArray.empty t347 ((rd_T82 l0_1 x19_1).f1))).size ≤ 9223372036854775807 then (if (rd_T82 l0_1 x19_1).f2 = true then (if (x3_1 ++ ((((rd_T82 l0_1 x19_1).f0) ++ (⟨#[32]⟩ : ByteArray)) ++ (rdOf ByteArray.empty t347 ((rd_T82 l0_1 x19_1).f1)))).size + 5 ≤ 9223372036854775807 then (if ((x3_1 ++ ((((rd_T82 l0_1 x19_1).f0) ++ (⟨#[32]⟩ : ByteArray)) ++ (rdOf ByteArray.empty t347 ((rd_T82 l0_1 x19_1).f1)))) ++ (⟨#[32,110,117,108,108]⟩ : ByteArray)).size + 2 ≤ 9223372036854775807 then (impl_DefText.l0 k1 (((x3_1 ++ ((((rd_T82 l0_1 x19_1).f0) ++ (⟨#[32]⟩ : ByteArray)) ++ (rdOf ByteArray.empty t347 ((rd_T82 l0_1 x19_1).f1)))) ++ (⟨#[32,110,117,108,108]⟩ : ByteArray)) ++ (⟨#[59,32]⟩ : ByteArray)) l0_1 (l0_1.length : Int) (wrap64 (x19_1 + 1)) a0_0 l0_1 l0_2 l0_3) else (none)) else (none)) else (if (x3_1 ++ ((((rd_T82 l0_1 x19_1).f0) ++ (⟨#[32]⟩ : ByteArray)) ++ (rdOf ByteArray.empty t347 ((rd_T82 l0_1 x19_1).f1)))).size + 2 ≤ 9223372036854775807 then (impl_DefText.l0 k1 ((x3_1 ++ ((((rd_T82 l0_1 x19_1).f0) ++ (⟨#[32]⟩ : ByteArray)) ++ (rdOf ByteArray.empty t347 ((rd_T82 l0_1 x19_1).f1)))) ++ (⟨#[59,32]⟩ : ByteArray)) l0_1 (l0_1.length : Int) (wrap64 (x19_1 + 1)) a0_0 l0_1 l0_2 l0_3) else (none))) else (none)) else (none)) else (none)) else (none)) = some r:=H
          have A14:=aM_ A140
          clear A140
          by_cases c15 : 0 ≤ ((rd_T82 l0_1 x19_1).f1)
          ·rw [if_pos c15] at H
           have c15b0 : decide (0 ≤ ((rd_T82 l0_1 x19_1).f1)) = true:=decide_eq_true c15
           clear c15
           by_cases c16 : ((rd_T82 l0_1 x19_1).f1) < (t347.length : Int)
           ·rw [if_pos c16] at H
            have c16b0 : decide (((rd_T82 l0_1 x19_1).f1) < (t347.length : Int)) = true:=decide_eq_true c16
            clear c16
            by_cases c17 : (((rd_T82 l0_1 x19_1).f0) ++ (⟨#[32]⟩ : ByteArray)).size + (rdOf ByteArray.empty t347 ((rd_T82 l0_1 x19_1).f1)).size ≤ 9223372036854775807
            ·rw [if_pos c17] at H
             have c17b0:=eq_true c17
             have c17b1 : decide ((((rd_T82 l0_1 x19_1).f0) ++ (⟨#[32]⟩ : ByteArray)).size + (rdOf ByteArray.empty t347 ((rd_T82 l0_1 x19_1).f1)).size ≤ 9223372036854775807) = true:=decide_eq_true c17
             try have c17b2 : (9223372036854775807 < (((rd_T82 l0_1 x19_1).f0) ++ (⟨#[32]⟩ : ByteArray)).size + (rdOf ByteArray.empty t347 ((rd_T82 l0_1 x19_1).f1)).size) = False:=eq_false (Nat.not_lt.2 c17)
             have c17b3:=eq_false (Nat.not_lt.2 c17);(repeat rw [ByteArray.size_append] at c17b3);(try rw [show (⟨#[32]⟩ : ByteArray).size = 1 from rfl] at c17b3)
             by_cases c18 : x3_1.size + ((((rd_T82 l0_1 x19_1).f0) ++ (⟨#[32]⟩ : ByteArray)) ++ (rdOf ByteArray.empty t347 ((rd_T82 l0_1 x19_1).f1))).size ≤ 9223372036854775807
             ·rw [if_pos c18] at H
              have c18b0:=eq_true c18
              have c18b1 : decide (x3_1.size + ((((rd_T82 l0_1 x19_1).f0) ++ (⟨#[32]⟩ : ByteArray)) ++ (rdOf ByteArray.empty t347 ((rd_T82 l0_1 x19_1).f1))).size ≤ 9223372036854775807) = true:=decide_eq_true c18
              try have c18b2 : (9223372036854775807 < x3_1.size + ((((rd_T82 l0_1 x19_1).f0) ++ (⟨#[32]⟩ : ByteArray)) ++ (rdOf ByteArray.empty t347 ((rd_T82 l0_1 x19_1).f1))).size) = False:=eq_false (Nat.not_lt.2 c18)
              have c18b3:=eq_false (Nat.not_lt.2 c18);(repeat rw [ByteArray.size_append] at c18b3);(try rw [show (⟨#[32]⟩ : ByteArray).size = 1 from rfl] at c18b3)
              obtain ⟨bq19,hbq19⟩ : ∃ b_ : Bool,b_ = ((rd_T82 l0_1 x19_1).f2):=⟨_,rfl⟩
              replace H : (if bq19 = true then (if (x3_1 ++ ((((rd_T82 l0_1 x19_1).f0) ++ (⟨#[32]⟩ : ByteArray)) ++ (rdOf ByteArray.empty t347 ((rd_T82 l0_1 x19_1).f1)))).size + 5 ≤ 9223372036854775807 then (if ((x3_1 ++ ((((rd_T82 l0_1 x19_1).f0) ++ (⟨#[32]⟩ : ByteArray)) ++ (rdOf ByteArray.empty t347 ((rd_T82 l0_1 x19_1).f1)))) ++ (⟨#[32,110,117,108,108]⟩ : ByteArray)).size + 2 ≤ 9223372036854775807 then (impl_DefText.l0 k1 (((x3_1 ++ ((((rd_T82 l0_1 x19_1).f0) ++ (⟨#[32]⟩ : ByteArray)) ++ (rdOf ByteArray.empty t347 ((rd_T82 l0_1 x19_1).f1)))) ++ (⟨#[32,110,117,108,108]⟩ : ByteArray)) ++ (⟨#[59,32]⟩ : ByteArray)) l0_1 (l0_1.length : Int) (wrap64 (x19_1 + 1)) a0_0 l0_1 l0_2 l0_3) else (none)) else (none)) else (if (x3_1 ++ ((((rd_T82 l0_1 x19_1).f0) ++ (⟨#[32]⟩ : ByteArray)) ++ (rdOf ByteArray.empty t347 ((rd_T82 l0_1 x19_1).f1)))).size + 2 ≤ 9223372036854775807 then (impl_DefText.l0 k1 ((x3_1 ++ ((((rd_T82 l0_1 x19_1).f0) ++ (⟨#[32]⟩ : ByteArray)) ++ (rdOf ByteArray.empty t347 ((rd_T82 l0_1 x19_1).f1)))) ++ (⟨#[59,32]⟩ : ByteArray)) l0_1 (l0_1.length : Int) (wrap64 (x19_1 + 1)) a0_0 l0_1 l0_2 l0_3) else (none))) = some r:=by rw [← hbq19] at H;exact H
              have Nbq19:=aM_ hbq19
              clear hbq19
              by_cases c20 : bq19 = true
              ·subst c20
               have H1 : (if (x3_1 ++ ((((rd_T82 l0_1 x19_1).f0) ++ (⟨#[32]⟩ : ByteArray)) ++ (rdOf ByteArray.empty t347 ((rd_T82 l0_1 x19_1).f1)))).size + 5 ≤ 9223372036854775807 then (if ((x3_1 ++ ((((rd_T82 l0_1 x19_1).f0) ++ (⟨#[32]⟩ : ByteArray)) ++ (rdOf ByteArray.empty t347 ((rd_T82 l0_1 x19_1).f1)))) ++ (⟨#[32,110,117,108,108]⟩ : ByteArray)).size + 2 ≤ 9223372036854775807 then (impl_DefText.l0 k1 (((x3_1 ++ ((((rd_T82 l0_1 x19_1).f0) ++ (⟨#[32]⟩ : ByteArray)) ++ (rdOf ByteArray.empty t347 ((rd_T82 l0_1 x19_1).f1)))) ++ (⟨#[32,110,117,108,108]⟩ : ByteArray)) ++ (⟨#[59,32]⟩ : ByteArray)) l0_1 (l0_1.length : Int) (wrap64 (x19_1 + 1)) a0_0 l0_1 l0_2 l0_3) else (none)) else (none)) = some r:=by rw [if_pos rfl] at H;exact H
               clear H
               have H:=H1
               clear H1
               by_cases c21 : (x3_1 ++ ((((rd_T82 l0_1 x19_1).f0) ++ (⟨#[32]⟩ : ByteArray)) ++ (rdOf ByteArray.empty t347 ((rd_T82 l0_1 x19_1).f1)))).size + 5 ≤ 9223372036854775807
               ·rw [if_pos c21] at H
                have c21b0:=eq_true c21
                have c21b1 : decide ((x3_1 ++ ((((rd_T82 l0_1 x19_1).f0) ++ (⟨#[32]⟩ : ByteArray)) ++ (rdOf ByteArray.empty t347 ((rd_T82 l0_1 x19_1).f1)))).size + 5 ≤ 9223372036854775807) = true:=decide_eq_true c21
                try have c21b2 : (9223372036854775807 < (x3_1 ++ ((((rd_T82 l0_1 x19_1).f0) ++ (⟨#[32]⟩ : ByteArray)) ++ (rdOf ByteArray.empty t347 ((rd_T82 l0_1 x19_1).f1)))).size + 5) = False:=eq_false (Nat.not_lt.2 c21)
                have c21b3:=eq_false (Nat.not_lt.2 c21);(repeat rw [ByteArray.size_append] at c21b3);(try rw [show (⟨#[32]⟩ : ByteArray).size = 1 from rfl] at c21b3)
                by_cases c22 : ((x3_1 ++ ((((rd_T82 l0_1 x19_1).f0) ++ (⟨#[32]⟩ : ByteArray)) ++ (rdOf ByteArray.empty t347 ((rd_T82 l0_1 x19_1).f1)))) ++ (⟨#[32,110,117,108,108]⟩ : ByteArray)).size + 2 ≤ 9223372036854775807
                ·rw [if_pos c22] at H
                 have c22b0:=eq_true c22
                 have c22b1 : decide (((x3_1 ++ ((((rd_T82 l0_1 x19_1).f0) ++ (⟨#[32]⟩ : ByteArray)) ++ (rdOf ByteArray.empty t347 ((rd_T82 l0_1 x19_1).f1)))) ++ (⟨#[32,110,117,108,108]⟩ : ByteArray)).size + 2 ≤ 9223372036854775807) = true:=decide_eq_true c22
                 try have c22b2 : (9223372036854775807 < ((x3_1 ++ ((((rd_T82 l0_1 x19_1).f0) ++ (⟨#[32]⟩ : ByteArray)) ++ (rdOf ByteArray.empty t347 ((rd_T82 l0_1 x19_1).f1)))) ++ (⟨#[32,110,117,108,108]⟩ : ByteArray)).size + 2) = False:=eq_false (Nat.not_lt.2 c22)
                 have c22b3:=eq_false (Nat.not_lt.2 c22);(repeat rw [ByteArray.size_append] at c22b3);(try rw [show (⟨#[32,110,117,108,108]⟩ : ByteArray).size = 5 from rfl] at c22b3);(try rw [show (⟨#[32]⟩ : ByteArray).size = 1 from rfl] at c22b3)
                 have H':=aM_ H
                 clear H
                 have p345 : 0 ≤ (x19_1 : Int):=oT_ (by first | (with_reducible assumption) | assumption)
                 have q345 : x19_1 < (l0_1.length : Int):=oT_ (by first | (with_reducible assumption) | assumption)
                 obtain ⟨ad345,e345,hx345_0,hx345_1,hx345_2⟩:=at_T82 HR0_1.out x19_1 p345 q345
                 (try rw [← Nbq19.out] at hx345_2)
                 cases e345
                 replace hx345_0:=(HB.out.cell (wL_ w _ hx345_0)).trans hx345_0
                 replace hx345_1:=(HB.out.cell (wL_ w _ hx345_1)).trans hx345_1
                 replace hx345_2:=(HB.out.cell (wL_ w _ hx345_2)).trans hx345_2
                 replace p345:=eq_true p345
                 replace q345:=eq_true q345
                 try go_wp2_with (first | ((with_reducible refine gate_dst (N:=5) rfl ?_);refine box_event ?hg (N:=5) ?hd (cs:=#[.string (⟨#[]⟩ : ByteArray),.int .i64 0,.bool false]) (t:=82) ?hr ?_;(case hd=>rfl);(case hg=>rfl);(case hr=>first | (go_simp;done) | (go_simp;rfl));intro gb346 hg w23 hbox hb;have n0_:=aM_ (blk_below (g:=gb343) (o:=.cells #[.string a0_0,.slice (some ad345) l0_1.length c0_1,.slice A0_2 l0_2.length c0_2,.slice A0_3 l0_3.length c0_3] 35 (0,0)) (by exact kZ_ BK343) hb);have n1_:=aM_ (bT_ (by exact bZ_ HB) hb);have n2_:=aM_ (hbox);have n3_:=aM_ ((by rw [hg];exact (bS_ (by exact bZ_ HB)) : w.heap.size ≤ gb346));have n4_:=aM_ ((by rw [hg];exact (bS_ (by exact bZ_ HB)) : w.heap.size ≤ gb346));have n5_:=aM_ ((by rw [hg];exact nN_ (blk_lt (g:=gb343) (o:=.cells #[.string a0_0,.slice (some ad345) l0_1.length c0_1,.slice A0_2 l0_2.length c0_2,.slice A0_3 l0_3.length c0_3] 35 (0,0)) (by exact kZ_ BK343)) : gb343 ≠ gb346));have n6_:=aM_ ((by rw [hg];exact Nat.ne_of_gt (blk_lt (g:=gb343) (o:=.cells #[.string a0_0,.slice (some ad345) l0_1.length c0_1,.slice A0_2 l0_2.length c0_2,.slice A0_3 l0_3.length c0_3] 35 (0,0)) (by exact kZ_ BK343)) : gb346 ≠ gb343));clear BK343 HB;have BK343:=n0_;have HB:=n1_;have BK346:=n2_;have GW346:=n3_;have GE346:=n4_;have NB343_346:=n5_;have NB346_343:=n6_;clear n0_ n1_ n2_ n3_ n4_ n5_ n6_ hb hbox hg;have hnb24:=NB346_343.out;have hnc24:=NB343_346.out;have hcz25_0 : w23.cell? ⟨gb346,0,none⟩ = some (.string (⟨#[]⟩ : ByteArray)):=(kC_ BK346.out 0).trans rfl;have hcz25_1 : w23.cell? ⟨gb346,1,none⟩ = some (.int .i64 0):=(kC_ BK346.out 1).trans rfl;have hcz25_2 : w23.cell? ⟨gb346,2,none⟩ = some (.bool false):=(kC_ BK346.out 2).trans rfl;have hfz25_0:=kF_ BK346.out 0;have hfz25_1:=kF_ BK346.out 1;have hfz25_2:=kF_ BK346.out 2))
                 have n0_ : Aside0 ((((w23.setCell ⟨gb346,0,none⟩ (.string ((rd_T82 l0_1 x19_1).f0))).setCell ⟨gb346,1,none⟩ (.int .i64 ((rd_T82 l0_1 x19_1).f1))).setCell ⟨gb346,2,none⟩ (.bool true)).heap[gb343]? = some (.cells #[.string a0_0,.slice (some ad345) l0_1.length c0_1,.slice A0_2 l0_2.length c0_2,.slice A0_3 l0_3.length c0_3] 35 (0,0))):=⟨by exact kW_ BK343⟩
                 have n1_ : Aside0 ((((w23.setCell ⟨gb346,0,none⟩ (.string ((rd_T82 l0_1 x19_1).f0))).setCell ⟨gb346,1,none⟩ (.int .i64 ((rd_T82 l0_1 x19_1).f1))).setCell ⟨gb346,2,none⟩ (.bool true)).heap[gb346]? = some (.cells #[.string ((rd_T82 l0_1 x19_1).f0),.int .i64 ((rd_T82 l0_1 x19_1).f1),.bool true] 82 (0,0))):=⟨by (with_reducible repeat (first | refine kN_ ?_ _ | refine kD_ ?_ | refine kA_ ?_ _));refine kP_ (cs:=#[.string ((rd_T82 l0_1 x19_1).f0),.int .i64 ((rd_T82 l0_1 x19_1).f1),.bool false]) ?_ 2 _ rfl;(with_reducible repeat (first | refine kN_ ?_ _ | refine kD_ ?_ | refine kA_ ?_ _));refine kP_ (cs:=#[.string ((rd_T82 l0_1 x19_1).f0),.int .i64 0,.bool false]) ?_ 1 _ rfl;(with_reducible repeat (first | refine kN_ ?_ _ | refine kD_ ?_ | refine kA_ ?_ _));refine kP_ (cs:=#[.string (⟨#[]⟩ : ByteArray),.int .i64 0,.bool false]) ?_ 0 _ rfl;exact kZ_ BK346⟩
                 have n2_ : Aside0 (Below w.heap.size w (((w23.setCell ⟨gb346,0,none⟩ (.string ((rd_T82 l0_1 x19_1).f0))).setCell ⟨gb346,1,none⟩ (.int .i64 ((rd_T82 l0_1 x19_1).f1))).setCell ⟨gb346,2,none⟩ (.bool true))):=⟨by exact bZ_ HB⟩
                 clear BK343 BK346 HB
                 generalize (((w23.setCell ⟨gb346,0,none⟩ (.string ((rd_T82 l0_1 x19_1).f0))).setCell ⟨gb346,1,none⟩ (.int .i64 ((rd_T82 l0_1 x19_1).f1))).setCell ⟨gb346,2,none⟩ (.bool true)) = w26 at n0_ n1_ n2_ ⊢
                 have BK343:=n0_
                 have BK346:=n1_
                 have HB:=n2_
                 clear n0_ n1_ n2_
                 have n0_:=aM_ (kD_ BK343.out)
                 have n1_:=aM_ (kD_ BK346.out)
                 have n2_:=aM_ (bD_ HB.out)
                 clear BK343 BK346 HB
                 have BK343:=n0_
                 have BK346:=n1_
                 have HB:=n2_
                 clear n0_ n1_ n2_
                 refine start_ (n:=12) (S:=fun w'=>w'.cell? ⟨gb346,0,none⟩ = some (.string ((rd_T82 l0_1 x19_1).f0)) ∧ w'.cell? ⟨gb346,1,none⟩ = some (.int .i64 ((rd_T82 l0_1 x19_1).f1)) ∧ w'.cell? ⟨gb346,2,none⟩ = some (.bool true)) (ds:=[]) (tb_ 0 12) (by kernel_rfl) rfl rfl ⟨(kC_ BK346.out 0).trans rfl,(kC_ BK346.out 1).trans rfl,(kC_ BK346.out 2).trans rfl⟩ (fun hHeld=>?_);refine with_tabW impl_DefText.tab7 impl_DefText.bits7 (fun HT_ HW_=>?_)
                 generalize w26.drew = w27 at BK343 BK346 HB hHeld ⊢
                 refine pure_ (i:=0) (N:=some 23) (v:=?_) (a':=?_) (tb_ 1 11) rfl rfl (any_of HT_.out (by kernel_rfl)) (fun _ _ _ h=>h) (Or.inl ⟨by rfl,?_⟩) ?_ ?_
                 rotate_left
                 ·intro w'
                  go_simp
                  with_reducible rfl
                 rotate_left
                 ·simp only [Act.put,sI_,sZ_,sS_,i64_w,i32_w]
                  rfl
                 refine pure_ (i:=1) (N:=some 24) (v:=?_) (a':=?_) (tb_ 2 10) rfl rfl (any_of HT_.out (by kernel_rfl)) (fun _ _ _ h=>h) (Or.inl ⟨by rfl,?_⟩) ?_ ?_
                 rotate_left
                 ·intro w'
                  go_simp
                  with_reducible rfl
                 rotate_left
                 ·simp only [Act.put,sI_,sZ_,sS_,i64_w,i32_w]
                  rfl
                 refine pure_ (i:=5) (N:=some 28) (v:=?_) (a':=?_) #[true,true,false,false,false,true,false,false,false,false,false,false] rfl rfl (any_of HT_.out (by kernel_rfl)) (fun _ _ _ h=>h) (Or.inl ⟨by rfl,?_⟩) ?_ ?_
                 rotate_left
                 ·intro w'
                  go_simp
                  with_reducible rfl
                 rotate_left
                 ·simp only [Act.put,sI_,sZ_,sS_,i64_w,i32_w]
                  rfl
                 refine take_ (i:=2) (N:=some 25) (v:=?_) (a':=?_) #[true,true,true,false,false,true,false,false,false,false,false,false] rfl rfl (take_ofW HT_.out HW_.out (by kernel_rfl)) (fun _ _ _ h=>h) (Or.inl ⟨by rfl,?_⟩) hHeld ?_ ?_
                 rotate_left
                 ·rintro w' ⟨s0,s1,s2⟩
                  go_simp
                  with_reducible rfl
                 rotate_left
                 ·simp only [Act.put,sI_,sZ_,sS_,i64_w,i32_w]
                  rfl
                 refine pure_ (i:=3) (N:=some 26) (v:=?_) (a':=?_) #[true,true,true,true,false,true,false,false,false,false,false,false] rfl rfl (any_of HT_.out (by kernel_rfl)) (fun _ _ _ h=>h) (Or.inl ⟨by rfl,?_⟩) ?_ ?_
                 rotate_left
                 ·intro w'
                  go_simp
                  with_reducible rfl
                 rotate_left
                 ·simp only [Act.put,sI_,sZ_,sS_,i64_w,i32_w]
                  rfl
                 refine take_ (i:=6) (N:=some 29) (v:=?_) (a':=?_) #[true,true,true,true,false,true,true,false,false,false,false,false] rfl rfl (take_ofW HT_.out HW_.out (by kernel_rfl)) (fun _ _ _ h=>h) (Or.inl ⟨by rfl,?_⟩) hHeld ?_ ?_
                 rotate_left
                 ·rintro w' ⟨s0,s1,s2⟩
                  go_simp
                  with_reducible rfl
                 rotate_left
                 ·simp only [Act.put,sI_,sZ_,sS_,i64_w,i32_w]
                  rfl
                 refine one_ (i:=4) (N:=some 27) (tb_ 7 5) rfl rfl (one_of HT_.out (by kernel_rfl)) (by decide) (fun K hK=>?_)
                 refine goes_ Tryd.func64 (by kernel_rfl) rfl #[.string (⟨#[32,105,110,116,32,110,117,109,32,116,101,120,116,32,98,111,111,108]⟩ : ByteArray),.string (⟨#[32]⟩ : ByteArray)] (by rfl) rfl rfl (by (try simp only [mA_,mC_,mN_]);first | done | rfl | (simp only [lD_,lT_];rfl)) ?_
                 with_reducible refine (strings_Split.calls (⟨#[32,105,110,116,32,110,117,109,32,116,101,120,116,32,98,111,111,108]⟩ : ByteArray) (⟨#[32]⟩ : ByteArray) t347 _ A14.out).mono ?_
                 rintro e w28 ⟨v348,rfl,ho0,hb⟩
                 skip
                 refine ⟨_,rfl,?_⟩
                 have n0_:=aM_ (Kd.R_lower ho0 (bS_ (by exact bZ_ HB)))
                 have n1_:=aM_ (blk_below (g:=gb343) (o:=.cells #[.string a0_0,.slice (some ad345) l0_1.length c0_1,.slice A0_2 l0_2.length c0_2,.slice A0_3 l0_3.length c0_3] 35 (0,0)) (by exact kZ_ BK343) hb)
                 have n2_:=aM_ (blk_below (g:=gb346) (o:=.cells #[.string ((rd_T82 l0_1 x19_1).f0),.int .i64 ((rd_T82 l0_1 x19_1).f1),.bool true] 82 (0,0)) (by exact kZ_ BK346) hb)
                 have n3_:=aM_ (bT_ (by exact bZ_ HB) hb)
                 clear BK343 BK346 HB
                 have HO349:=n0_
                 have BK343:=n1_
                 have BK346:=n2_
                 have HB:=n3_
                 clear n0_ n1_ n2_ n3_ hb
                 skip
                 skip
                 skip
                 clear ho0
                 obtain ⟨Ao29,co29,eo29⟩:=Kd.R_slice HO349.out
                 (first | subst eo29 | (injection eo29 with f1_ f2_ f3_;have f4_:=f1_.symm;have f5_:=f3_.symm;clear f1_ f2_ f3_;subst f4_;subst f5_))
                 have p350 : 0 ≤ (((rd_T82 l0_1 x19_1).f1) : Int):=oT_ (by first | (with_reducible assumption) | assumption)
                 have q350 : ((rd_T82 l0_1 x19_1).f1) < (t347.length : Int):=oT_ (by first | (with_reducible assumption) | assumption)
                 obtain ⟨ad350,e350,hx350_0⟩:=Kd.at_string (Kd.R_reads' HO349.out).2.2 ((rd_T82 l0_1 x19_1).f1) p350 q350
                 cases e350
                 replace p350:=eq_true p350
                 replace q350:=eq_true q350
                 refine hK.out _ _ ⟨(kC_ BK346.out 0).trans rfl,(kC_ BK346.out 1).trans rfl,(kC_ BK346.out 2).trans rfl⟩ (fun hHeld=>?_)
                 clear hK K
                 refine norm_ (a':=?_) ?_ ?_
                 rotate_left
                 ·show Act.put _ (some 27) _ = _
                  simp only [Act.put,sI_,sZ_,sS_,i64_w,i32_w]
                  rfl
                 refine pure_ (i:=7) (N:=some 30) (v:=?_) (a':=?_) (tb_ 8 4) rfl rfl (any_of HT_.out (by kernel_rfl)) (fun _ _ _ h=>h) (Or.inl ⟨by rfl,?_⟩) ?_ ?_
                 rotate_left
                 ·intro w'
                  go_simp
                  with_reducible rfl
                 rotate_left
                 ·simp only [Act.put,sI_,sZ_,sS_,i64_w,i32_w]
                  rfl
                 refine one_ (i:=8) (N:=some 31) (tb_ 9 3) rfl rfl (one_of HT_.out (by kernel_rfl)) (by decide) (fun K hK=>?_)
                 refine value_ (w1:=?_) (v:=?_) (by rfl) rfl ?_ ?_
                 rotate_left 2
                 ·go_simp
                  constructor
                  ·rfl
                  ·rfl
                 refine hK.out _ _ ⟨(kC_ BK346.out 0).trans rfl,(kC_ BK346.out 1).trans rfl,(kC_ BK346.out 2).trans rfl⟩ (fun hHeld=>?_)
                 clear hK K
                 refine norm_ (a':=?_) ?_ ?_
                 rotate_left
                 ·show Act.put _ (some 31) _ = _
                  simp only [Act.put,sI_,sZ_,sS_,i64_w,i32_w]
                  rfl
                 refine pure_ (i:=9) (N:=some 32) (v:=?_) (a':=?_) (tb_ 10 2) rfl rfl (any_of HT_.out (by kernel_rfl)) (fun _ _ _ h=>h) (Or.inl ⟨by rfl,?_⟩) ?_ ?_
                 rotate_left
                 ·intro w'
                  go_simp
                  with_reducible rfl
                 rotate_left
                 ·simp only [Act.put,sI_,sZ_,sS_,i64_w,i32_w]
                  rfl
                 refine pure_ (i:=10) (N:=some 33) (v:=?_) (a':=?_) (tb_ 11 1) rfl rfl (any_of HT_.out (by kernel_rfl)) (fun _ _ _ h=>h) (Or.inl ⟨by rfl,?_⟩) ?_ ?_
                 rotate_left
                 ·intro w'
                  go_simp
                  with_reducible rfl
                 rotate_left
                 ·simp only [Act.put,sI_,sZ_,sS_,i64_w,i32_w]
                  rfl
                 refine pure_ (i:=11) (N:=some 3) (v:=?_) (a':=?_) (tb_ 12 0) rfl rfl (any_of HT_.out (by kernel_rfl)) (fun _ _ _ h=>h) (Or.inl ⟨by rfl,?_⟩) ?_ ?_
                 rotate_left
                 ·intro w'
                  go_simp
                  with_reducible rfl
                 rotate_left
                 ·simp only [Act.put,sI_,sZ_,sS_,i64_w,i32_w]
                  rfl
                 refine done_ (done_of HT_.out (by kernel_rfl)) ?_
                 have hcz30_0 : w28.cell? ⟨gb346,0,none⟩ = some (.string ((rd_T82 l0_1 x19_1).f0)):=(kC_ BK346.out 0).trans rfl
                 have hcz30_1 : w28.cell? ⟨gb346,1,none⟩ = some (.int .i64 ((rd_T82 l0_1 x19_1).f1)):=(kC_ BK346.out 1).trans rfl
                 have hcz30_2 : w28.cell? ⟨gb346,2,none⟩ = some (.bool true):=(kC_ BK346.out 2).trans rfl
                 have hfz30_0:=kF_ BK346.out 0
                 have hfz30_1:=kF_ BK346.out 1
                 have hfz30_2:=kF_ BK346.out 2
                 try go_wp2
                 go_roundg k1
                 case measure=>have:=HK1.out;omega
                 case rel=>exact ⟨(((x3_1 ++ ((((rd_T82 l0_1 x19_1).f0) ++ (⟨#[32]⟩ : ByteArray)) ++ (rdOf ByteArray.empty t347 ((rd_T82 l0_1 x19_1).f1)))) ++ (⟨#[32,110,117,108,108]⟩ : ByteArray)) ++ (⟨#[59,32]⟩ : ByteArray)),(wrap64 (x19_1 + 1)),(by first | rfl | (simp;done) | (simp [*];done)),(by first | rfl | (simp;done) | (simp [*];done)),H', ⟨by have:=HK1.out;omega⟩,⟨by exact kZ_ BK343⟩,⟨by exact bZ_ HB⟩⟩
                ·rw [if_neg c22] at H
                 exact absurd H (by simp)
               ·rw [if_neg c21] at H
                exact absurd H (by simp)
              ·replace c20:=Bool.eq_false_iff.mpr c20
               subst c20
               have H1 : (if (x3_1 ++ ((((rd_T82 l0_1 x19_1).f0) ++ (⟨#[32]⟩ : ByteArray)) ++ (rdOf ByteArray.empty t347 ((rd_T82 l0_1 x19_1).f1)))).size + 2 ≤ 9223372036854775807 then (impl_DefText.l0 k1 ((x3_1 ++ ((((rd_T82 l0_1 x19_1).f0) ++ (⟨#[32]⟩ : ByteArray)) ++ (rdOf ByteArray.empty t347 ((rd_T82 l0_1 x19_1).f1)))) ++ (⟨#[59,32]⟩ : ByteArray)) l0_1 (l0_1.length : Int) (wrap64 (x19_1 + 1)) a0_0 l0_1 l0_2 l0_3) else (none)) = some r:=by rw [if_neg (show ¬ (false = true) by decide)] at H;exact H
               clear H
               have H:=H1
               clear H1
               by_cases c31 : (x3_1 ++ ((((rd_T82 l0_1 x19_1).f0) ++ (⟨#[32]⟩ : ByteArray)) ++ (rdOf ByteArray.empty t347 ((rd_T82 l0_1 x19_1).f1)))).size + 2 ≤ 9223372036854775807
               ·rw [if_pos c31] at H
                have c31b0:=eq_true c31
                have c31b1 : decide ((x3_1 ++ ((((rd_T82 l0_1 x19_1).f0) ++ (⟨#[32]⟩ : ByteArray)) ++ (rdOf ByteArray.empty t347 ((rd_T82 l0_1 x19_1).f1)))).size + 2 ≤ 9223372036854775807) = true:=decide_eq_true c31
                try have c31b2 : (9223372036854775807 < (x3_1 ++ ((((rd_T82 l0_1 x19_1).f0) ++ (⟨#[32]⟩ : ByteArray)) ++ (rdOf ByteArray.empty t347 ((rd_T82 l0_1 x19_1).f1)))).size + 2) = False:=eq_false (Nat.not_lt.2 c31)
                have c31b3:=eq_false (Nat.not_lt.2 c31);(repeat rw [ByteArray.size_append] at c31b3);(try rw [show (⟨#[32]⟩ : ByteArray).size = 1 from rfl] at c31b3)
                have H':=aM_ H
                clear H
                have p345 : 0 ≤ (x19_1 : Int):=oT_ (by first | (with_reducible assumption) | assumption)
                have q345 : x19_1 < (l0_1.length : Int):=oT_ (by first | (with_reducible assumption) | assumption)
                obtain ⟨ad345,e345,hx345_0,hx345_1,hx345_2⟩:=at_T82 HR0_1.out x19_1 p345 q345
                (try rw [← Nbq19.out] at hx345_2)
                cases e345
                replace hx345_0:=(HB.out.cell (wL_ w _ hx345_0)).trans hx345_0
                replace hx345_1:=(HB.out.cell (wL_ w _ hx345_1)).trans hx345_1
                replace hx345_2:=(HB.out.cell (wL_ w _ hx345_2)).trans hx345_2
                replace p345:=eq_true p345
                replace q345:=eq_true q345
                try go_wp2_with (first | ((with_reducible refine gate_dst (N:=5) rfl ?_);refine box_event ?hg (N:=5) ?hd (cs:=#[.string (⟨#[]⟩ : ByteArray),.int .i64 0,.bool false]) (t:=82) ?hr ?_;(case hd=>rfl);(case hg=>rfl);(case hr=>first | (go_simp;done) | (go_simp;rfl));intro gb346 hg w32 hbox hb;have n0_:=aM_ (blk_below (g:=gb343) (o:=.cells #[.string a0_0,.slice (some ad345) l0_1.length c0_1,.slice A0_2 l0_2.length c0_2,.slice A0_3 l0_3.length c0_3] 35 (0,0)) (by exact kZ_ BK343) hb);have n1_:=aM_ (bT_ (by exact bZ_ HB) hb);have n2_:=aM_ (hbox);have n3_:=aM_ ((by rw [hg];exact (bS_ (by exact bZ_ HB)) : w.heap.size ≤ gb346));have n4_:=aM_ ((by rw [hg];exact (bS_ (by exact bZ_ HB)) : w.heap.size ≤ gb346));have n5_:=aM_ ((by rw [hg];exact nN_ (blk_lt (g:=gb343) (o:=.cells #[.string a0_0,.slice (some ad345) l0_1.length c0_1,.slice A0_2 l0_2.length c0_2,.slice A0_3 l0_3.length c0_3] 35 (0,0)) (by exact kZ_ BK343)) : gb343 ≠ gb346));have n6_:=aM_ ((by rw [hg];exact Nat.ne_of_gt (blk_lt (g:=gb343) (o:=.cells #[.string a0_0,.slice (some ad345) l0_1.length c0_1,.slice A0_2 l0_2.length c0_2,.slice A0_3 l0_3.length c0_3] 35 (0,0)) (by exact kZ_ BK343)) : gb346 ≠ gb343));clear BK343 HB;have BK343:=n0_;have HB:=n1_;have BK346:=n2_;have GW346:=n3_;have GE346:=n4_;have NB343_346:=n5_;have NB346_343:=n6_;clear n0_ n1_ n2_ n3_ n4_ n5_ n6_ hb hbox hg;have hnb33:=NB346_343.out;have hnc33:=NB343_346.out;have hcz34_0 : w32.cell? ⟨gb346,0,none⟩ = some (.string (⟨#[]⟩ : ByteArray)):=(kC_ BK346.out 0).trans rfl;have hcz34_1 : w32.cell? ⟨gb346,1,none⟩ = some (.int .i64 0):=(kC_ BK346.out 1).trans rfl;have hcz34_2 : w32.cell? ⟨gb346,2,none⟩ = some (.bool false):=(kC_ BK346.out 2).trans rfl;have hfz34_0:=kF_ BK346.out 0;have hfz34_1:=kF_ BK346.out 1;have hfz34_2:=kF_ BK346.out 2))
                have n0_ : Aside0 ((((w32.setCell ⟨gb346,0,none⟩ (.string ((rd_T82 l0_1 x19_1).f0))).setCell ⟨gb346,1,none⟩ (.int .i64 ((rd_T82 l0_1 x19_1).f1))).setCell ⟨gb346,2,none⟩ (.bool false)).heap[gb343]? = some (.cells #[.string a0_0,.slice (some ad345) l0_1.length c0_1,.slice A0_2 l0_2.length c0_2,.slice A0_3 l0_3.length c0_3] 35 (0,0))):=⟨by exact kW_ BK343⟩
                have n1_ : Aside0 ((((w32.setCell ⟨gb346,0,none⟩ (.string ((rd_T82 l0_1 x19_1).f0))).setCell ⟨gb346,1,none⟩ (.int .i64 ((rd_T82 l0_1 x19_1).f1))).setCell ⟨gb346,2,none⟩ (.bool false)).heap[gb346]? = some (.cells #[.string ((rd_T82 l0_1 x19_1).f0),.int .i64 ((rd_T82 l0_1 x19_1).f1),.bool false] 82 (0,0))):=⟨by (with_reducible repeat (first | refine kN_ ?_ _ | refine kD_ ?_ | refine kA_ ?_ _));refine kP_ (cs:=#[.string ((rd_T82 l0_1 x19_1).f0),.int .i64 ((rd_T82 l0_1 x19_1).f1),.bool false]) ?_ 2 _ rfl;(with_reducible repeat (first | refine kN_ ?_ _ | refine kD_ ?_ | refine kA_ ?_ _));refine kP_ (cs:=#[.string ((rd_T82 l0_1 x19_1).f0),.int .i64 0,.bool false]) ?_ 1 _ rfl;(with_reducible repeat (first | refine kN_ ?_ _ | refine kD_ ?_ | refine kA_ ?_ _));refine kP_ (cs:=#[.string (⟨#[]⟩ : ByteArray),.int .i64 0,.bool false]) ?_ 0 _ rfl;exact kZ_ BK346⟩
                have n2_ : Aside0 (Below w.heap.size w (((w32.setCell ⟨gb346,0,none⟩ (.string ((rd_T82 l0_1 x19_1).f0))).setCell ⟨gb346,1,none⟩ (.int .i64 ((rd_T82 l0_1 x19_1).f1))).setCell ⟨gb346,2,none⟩ (.bool false))):=⟨by exact bZ_ HB⟩
                clear BK343 BK346 HB
                generalize (((w32.setCell ⟨gb346,0,none⟩ (.string ((rd_T82 l0_1 x19_1).f0))).setCell ⟨gb346,1,none⟩ (.int .i64 ((rd_T82 l0_1 x19_1).f1))).setCell ⟨gb346,2,none⟩ (.bool false)) = w35 at n0_ n1_ n2_ ⊢
                have BK343:=n0_
                have BK346:=n1_
                have HB:=n2_
                clear n0_ n1_ n2_
                have n0_:=aM_ (kD_ BK343.out)
                have n1_:=aM_ (kD_ BK346.out)
                have n2_:=aM_ (bD_ HB.out)
                clear BK343 BK346 HB
                have BK343:=n0_
                have BK346:=n1_
                have HB:=n2_
                clear n0_ n1_ n2_
                refine start_ (n:=12) (S:=fun w'=>w'.cell? ⟨gb346,0,none⟩ = some (.string ((rd_T82 l0_1 x19_1).f0)) ∧ w'.cell? ⟨gb346,1,none⟩ = some (.int .i64 ((rd_T82 l0_1 x19_1).f1)) ∧ w'.cell? ⟨gb346,2,none⟩ = some (.bool false)) (ds:=[]) (tb_ 0 12) (by kernel_rfl) rfl rfl ⟨(kC_ BK346.out 0).trans rfl,(kC_ BK346.out 1).trans rfl,(kC_ BK346.out 2).trans rfl⟩ (fun hHeld=>?_);refine with_tabW impl_DefText.tab7 impl_DefText.bits7 (fun HT_ HW_=>?_)
                generalize w35.drew = w36 at BK343 BK346 HB hHeld ⊢
                refine pure_ (i:=0) (N:=some 23) (v:=?_) (a':=?_) (tb_ 1 11) rfl rfl (any_of HT_.out (by kernel_rfl)) (fun _ _ _ h=>h) (Or.inl ⟨by rfl,?_⟩) ?_ ?_
                rotate_left
                ·intro w'
                 go_simp
                 with_reducible rfl
                rotate_left
                ·simp only [Act.put,sI_,sZ_,sS_,i64_w,i32_w]
                 rfl
                refine pure_ (i:=1) (N:=some 24) (v:=?_) (a':=?_) (tb_ 2 10) rfl rfl (any_of HT_.out (by kernel_rfl)) (fun _ _ _ h=>h) (Or.inl ⟨by rfl,?_⟩) ?_ ?_
                rotate_left
                ·intro w'
                 go_simp
                 with_reducible rfl
                rotate_left
                ·simp only [Act.put,sI_,sZ_,sS_,i64_w,i32_w]
                 rfl
                refine pure_ (i:=5) (N:=some 28) (v:=?_) (a':=?_) #[true,true,false,false,false,true,false,false,false,false,false,false] rfl rfl (any_of HT_.out (by kernel_rfl)) (fun _ _ _ h=>h) (Or.inl ⟨by rfl,?_⟩) ?_ ?_
                rotate_left
                ·intro w'
                 go_simp
                 with_reducible rfl
                rotate_left
                ·simp only [Act.put,sI_,sZ_,sS_,i64_w,i32_w]
                 rfl
                refine take_ (i:=2) (N:=some 25) (v:=?_) (a':=?_) #[true,true,true,false,false,true,false,false,false,false,false,false] rfl rfl (take_ofW HT_.out HW_.out (by kernel_rfl)) (fun _ _ _ h=>h) (Or.inl ⟨by rfl,?_⟩) hHeld ?_ ?_
                rotate_left
                ·rintro w' ⟨s0,s1,s2⟩
                 go_simp
                 with_reducible rfl
                rotate_left
                ·simp only [Act.put,sI_,sZ_,sS_,i64_w,i32_w]
                 rfl
                refine pure_ (i:=3) (N:=some 26) (v:=?_) (a':=?_) #[true,true,true,true,false,true,false,false,false,false,false,false] rfl rfl (any_of HT_.out (by kernel_rfl)) (fun _ _ _ h=>h) (Or.inl ⟨by rfl,?_⟩) ?_ ?_
                rotate_left
                ·intro w'
                 go_simp
                 with_reducible rfl
                rotate_left
                ·simp only [Act.put,sI_,sZ_,sS_,i64_w,i32_w]
                 rfl
                refine take_ (i:=6) (N:=some 29) (v:=?_) (a':=?_) #[true,true,true,true,false,true,true,false,false,false,false,false] rfl rfl (take_ofW HT_.out HW_.out (by kernel_rfl)) (fun _ _ _ h=>h) (Or.inl ⟨by rfl,?_⟩) hHeld ?_ ?_
                rotate_left
                ·rintro w' ⟨s0,s1,s2⟩
                 go_simp
                 with_reducible rfl
                rotate_left
                ·simp only [Act.put,sI_,sZ_,sS_,i64_w,i32_w]
                 rfl
                refine one_ (i:=4) (N:=some 27) (tb_ 7 5) rfl rfl (one_of HT_.out (by kernel_rfl)) (by decide) (fun K hK=>?_)
                refine goes_ Tryd.func64 (by kernel_rfl) rfl #[.string (⟨#[32,105,110,116,32,110,117,109,32,116,101,120,116,32,98,111,111,108]⟩ : ByteArray),.string (⟨#[32]⟩ : ByteArray)] (by rfl) rfl rfl (by (try simp only [mA_,mC_,mN_]);first | done | rfl | (simp only [lD_,lT_];rfl)) ?_
                with_reducible refine (strings_Split.calls (⟨#[32,105,110,116,32,110,117,109,32,116,101,120,116,32,98,111,111,108]⟩ : ByteArray) (⟨#[32]⟩ : ByteArray) t347 _ A14.out).mono ?_
                rintro e w37 ⟨v348,rfl,ho0,hb⟩
                skip
                refine ⟨_,rfl,?_⟩
                have n0_:=aM_ (Kd.R_lower ho0 (bS_ (by exact bZ_ HB)))
                have n1_:=aM_ (blk_below (g:=gb343) (o:=.cells #[.string a0_0,.slice (some ad345) l0_1.length c0_1,.slice A0_2 l0_2.length c0_2,.slice A0_3 l0_3.length c0_3] 35 (0,0)) (by exact kZ_ BK343) hb)
                have n2_:=aM_ (blk_below (g:=gb346) (o:=.cells #[.string ((rd_T82 l0_1 x19_1).f0),.int .i64 ((rd_T82 l0_1 x19_1).f1),.bool false] 82 (0,0)) (by exact kZ_ BK346) hb)
                have n3_:=aM_ (bT_ (by exact bZ_ HB) hb)
                clear BK343 BK346 HB
                have HO349:=n0_
                have BK343:=n1_
                have BK346:=n2_
                have HB:=n3_
                clear n0_ n1_ n2_ n3_ hb
                skip
                skip
                skip
                clear ho0
                obtain ⟨Ao38,co38,eo38⟩:=Kd.R_slice HO349.out
                (first | subst eo38 | (injection eo38 with f1_ f2_ f3_;have f4_:=f1_.symm;have f5_:=f3_.symm;clear f1_ f2_ f3_;subst f4_;subst f5_))
                have p350 : 0 ≤ (((rd_T82 l0_1 x19_1).f1) : Int):=oT_ (by first | (with_reducible assumption) | assumption)
                have q350 : ((rd_T82 l0_1 x19_1).f1) < (t347.length : Int):=oT_ (by first | (with_reducible assumption) | assumption)
                obtain ⟨ad350,e350,hx350_0⟩:=Kd.at_string (Kd.R_reads' HO349.out).2.2 ((rd_T82 l0_1 x19_1).f1) p350 q350
                cases e350
                replace p350:=eq_true p350
                replace q350:=eq_true q350
                refine hK.out _ _ ⟨(kC_ BK346.out 0).trans rfl,(kC_ BK346.out 1).trans rfl,(kC_ BK346.out 2).trans rfl⟩ (fun hHeld=>?_)
                clear hK K
                refine norm_ (a':=?_) ?_ ?_
                rotate_left
                ·show Act.put _ (some 27) _ = _
                 simp only [Act.put,sI_,sZ_,sS_,i64_w,i32_w]
                 rfl
                refine pure_ (i:=7) (N:=some 30) (v:=?_) (a':=?_) (tb_ 8 4) rfl rfl (any_of HT_.out (by kernel_rfl)) (fun _ _ _ h=>h) (Or.inl ⟨by rfl,?_⟩) ?_ ?_
                rotate_left
                ·intro w'
                 go_simp
                 with_reducible rfl
                rotate_left
                ·simp only [Act.put,sI_,sZ_,sS_,i64_w,i32_w]
                 rfl
                refine one_ (i:=8) (N:=some 31) (tb_ 9 3) rfl rfl (one_of HT_.out (by kernel_rfl)) (by decide) (fun K hK=>?_)
                refine value_ (w1:=?_) (v:=?_) (by rfl) rfl ?_ ?_
                rotate_left 2
                ·go_simp
                 constructor
                 ·rfl
                 ·rfl
                refine hK.out _ _ ⟨(kC_ BK346.out 0).trans rfl,(kC_ BK346.out 1).trans rfl,(kC_ BK346.out 2).trans rfl⟩ (fun hHeld=>?_)
                clear hK K
                refine norm_ (a':=?_) ?_ ?_
                rotate_left
                ·show Act.put _ (some 31) _ = _
                 simp only [Act.put,sI_,sZ_,sS_,i64_w,i32_w]
                 rfl
                refine pure_ (i:=9) (N:=some 32) (v:=?_) (a':=?_) (tb_ 10 2) rfl rfl (any_of HT_.out (by kernel_rfl)) (fun _ _ _ h=>h) (Or.inl ⟨by rfl,?_⟩) ?_ ?_
                rotate_left
                ·intro w'
                 go_simp
                 with_reducible rfl
                rotate_left
                ·simp only [Act.put,sI_,sZ_,sS_,i64_w,i32_w]
                 rfl
                refine pure_ (i:=10) (N:=some 33) (v:=?_) (a':=?_) (tb_ 11 1) rfl rfl (any_of HT_.out (by kernel_rfl)) (fun _ _ _ h=>h) (Or.inl ⟨by rfl,?_⟩) ?_ ?_
                rotate_left
                ·intro w'
                 go_simp
                 with_reducible rfl
                rotate_left
                ·simp only [Act.put,sI_,sZ_,sS_,i64_w,i32_w]
                 rfl
                refine pure_ (i:=11) (N:=some 3) (v:=?_) (a':=?_) (tb_ 12 0) rfl rfl (any_of HT_.out (by kernel_rfl)) (fun _ _ _ h=>h) (Or.inl ⟨by rfl,?_⟩) ?_ ?_
                rotate_left
                ·intro w'
                 go_simp
                 with_reducible rfl
                rotate_left
                ·simp only [Act.put,sI_,sZ_,sS_,i64_w,i32_w]
                 rfl
                refine done_ (done_of HT_.out (by kernel_rfl)) ?_
                have hcz39_0 : w37.cell? ⟨gb346,0,none⟩ = some (.string ((rd_T82 l0_1 x19_1).f0)):=(kC_ BK346.out 0).trans rfl
                have hcz39_1 : w37.cell? ⟨gb346,1,none⟩ = some (.int .i64 ((rd_T82 l0_1 x19_1).f1)):=(kC_ BK346.out 1).trans rfl
                have hcz39_2 : w37.cell? ⟨gb346,2,none⟩ = some (.bool false):=(kC_ BK346.out 2).trans rfl
                have hfz39_0:=kF_ BK346.out 0
                have hfz39_1:=kF_ BK346.out 1
                have hfz39_2:=kF_ BK346.out 2
                try go_wp2
                go_roundg k1
                case measure=>have:=HK1.out;omega
                case rel=>exact ⟨((x3_1 ++ ((((rd_T82 l0_1 x19_1).f0) ++ (⟨#[32]⟩ : ByteArray)) ++ (rdOf ByteArray.empty t347 ((rd_T82 l0_1 x19_1).f1)))) ++ (⟨#[59,32]⟩ : ByteArray)),(wrap64 (x19_1 + 1)),(by first | rfl | (simp;done) | (simp [*];done)),(by first | rfl | (simp;done) | (simp [*];done)),H', ⟨by have:=HK1.out;omega⟩,⟨by exact kZ_ BK343⟩,⟨by exact bZ_ HB⟩⟩
               ·rw [if_neg c31] at H
                exact absurd H (by simp)
             ·rw [if_neg c18] at H
              exact absurd H (by simp)
            ·rw [if_neg c17] at H
             exact absurd H (by simp)
           ·rw [if_neg c16] at H
            exact absurd H (by simp)
          ·rw [if_neg c15] at H
           exact absurd H (by simp)
         ·rw [if_neg c13] at H
          exact absurd H (by simp)
        ·rw [if_neg c12] at H
         exact absurd H (by simp)
       ·rw [if_neg c11] at H
        exact absurd H (by simp)
      ·rw [if_neg c10] at H
       have c10b0 : decide (x19_1 < (l0_1.length : Int)) = false:=decide_eq_false c10
       clear c10
       replace H:=oB_ H
       obtain ⟨t351,A400,H⟩:=H
       replace H : (if 8 + t351.size ≤ 9223372036854775807 then (if x3_1.size + ((⟨#[112,114,105,109,97,114,121,32]⟩ : ByteArray) ++ t351).size ≤ 9223372036854775807 then (impl_DefText.l1 k1 (x3_1 ++ ((⟨#[112,114,105,109,97,114,121,32]⟩ : ByteArray) ++ t351)) l0_3 (l0_3.length : Int) 0 a0_0 l0_1 l0_2 l0_3) else (none)) else (none)) = some r:=H
       have A40:=aM_ A400
       clear A400
       by_cases c41 : 8 + t351.size ≤ 9223372036854775807
       ·rw [if_pos c41] at H
        have c41b0:=eq_true c41
        have c41b1 : decide (8 + t351.size ≤ 9223372036854775807) = true:=decide_eq_true c41
        try have c41b2 : (9223372036854775807 < 8 + t351.size) = False:=eq_false (Nat.not_lt.2 c41)
        by_cases c42 : x3_1.size + ((⟨#[112,114,105,109,97,114,121,32]⟩ : ByteArray) ++ t351).size ≤ 9223372036854775807
        ·rw [if_pos c42] at H
         have c42b0:=eq_true c42
         have c42b1 : decide (x3_1.size + ((⟨#[112,114,105,109,97,114,121,32]⟩ : ByteArray) ++ t351).size ≤ 9223372036854775807) = true:=decide_eq_true c42
         try have c42b2 : (9223372036854775807 < x3_1.size + ((⟨#[112,114,105,109,97,114,121,32]⟩ : ByteArray) ++ t351).size) = False:=eq_false (Nat.not_lt.2 c42)
         have c42b3:=eq_false (Nat.not_lt.2 c42);(repeat rw [ByteArray.size_append] at c42b3);(try rw [show (⟨#[112,114,105,109,97,114,121,32]⟩ : ByteArray).size = 8 from rfl] at c42b3)
         have H':=aM_ H
         clear H
         have hcz43_0 : wr.cell? ⟨gb343,0,none⟩ = some (.string a0_0):=(kC_ BK343.out 0).trans rfl
         have hcz43_1 : wr.cell? ⟨gb343,1,none⟩ = some (.slice A0_1 l0_1.length c0_1):=(kC_ BK343.out 1).trans rfl
         have hcz43_2 : wr.cell? ⟨gb343,2,none⟩ = some (.slice A0_2 l0_2.length c0_2):=(kC_ BK343.out 2).trans rfl
         have hcz43_3 : wr.cell? ⟨gb343,3,none⟩ = some (.slice A0_3 l0_3.length c0_3):=(kC_ BK343.out 3).trans rfl
         have hfz43_0:=kF_ BK343.out 0
         have hfz43_1:=kF_ BK343.out 1
         have hfz43_2:=kF_ BK343.out 2
         have hfz43_3:=kF_ BK343.out 3
         go_wp2_with (first | ((with_reducible refine gate_callee (f:=65) rfl ?_);refine goesL_ (some 45) rfl rfl Tryd.func65 (by kernel_rfl) rfl #[.agg #[.string a0_0,.slice A0_1 l0_1.length c0_1,.slice A0_2 l0_2.length c0_2,.slice A0_3 l0_3.length c0_3],.slice A0_2 l0_2.length c0_2] rfl (by (try simp only [mA_,mC_,mN_]);first | done | rfl | (simp only [lD_,lT_];rfl)) ?_;(with_reducible refine (impl_partsText.calls k1 a0_0 _ _ l0_1 _ _ l0_2 _ _ l0_3 _ _ l0_2 t351 _ ?side1 ?side2 ?side3 ?side4 ?side5 ?side6 ?side7 ?side8 A40.out).mono ?_);(case side1=>exact cZ_ HR0_1 HB);(case side2=>exact HC0_1.out);(case side3=>exact cZ_ HR0_2 HB);(case side4=>exact HC0_2.out);(case side5=>exact cZ_ HR0_3 HB);(case side6=>exact HC0_3.out);(case side7=>exact cZ_ HR0_2 HB);(case side8=>exact HC0_2.out);rintro e w44 ⟨rfl,hb⟩;refine ⟨_,rfl,?_⟩;have n0_:=aM_ (blk_below (g:=gb343) (o:=.cells #[.string a0_0,.slice A0_1 l0_1.length c0_1,.slice A0_2 l0_2.length c0_2,.slice A0_3 l0_3.length c0_3] 35 (0,0)) (by exact kZ_ BK343) hb);have n1_:=aM_ (bT_ (by exact bZ_ HB) hb);clear BK343 HB;have BK343:=n0_;have HB:=n1_;clear n0_ n1_ hb;have hcz45_0 : w44.cell? ⟨gb343,0,none⟩ = some (.string a0_0):=(kC_ BK343.out 0).trans rfl;have hcz45_1 : w44.cell? ⟨gb343,1,none⟩ = some (.slice A0_1 l0_1.length c0_1):=(kC_ BK343.out 1).trans rfl;have hcz45_2 : w44.cell? ⟨gb343,2,none⟩ = some (.slice A0_2 l0_2.length c0_2):=(kC_ BK343.out 2).trans rfl;have hcz45_3 : w44.cell? ⟨gb343,3,none⟩ = some (.slice A0_3 l0_3.length c0_3):=(kC_ BK343.out 3).trans rfl;have hfz45_0:=kF_ BK343.out 0;have hfz45_1:=kF_ BK343.out 1;have hfz45_2:=kF_ BK343.out 2;have hfz45_3:=kF_ BK343.out 3))
         (try simp only [Act.put,sI_,sS_,sZ_])
         go_loopg [3,51] k1 (fun kq v3 v51 w'=>∃ (x3_2 : ByteArray) (x51_2 : Int),v3 = .string x3_2 ∧ v51 = .int .i64 x51_2 ∧ Aside0 (impl_DefText.l1 kq x3_2 l0_3 (l0_3.length : Int) x51_2 a0_0 l0_1 l0_2 l0_3 = some r) ∧ Aside0 (kq ≤ k1) ∧ Aside0 (w'.heap[gb343]? = some (.cells #[.string a0_0,(.slice A0_1 l0_1.length c0_1),(.slice A0_2 l0_2.length c0_2),(.slice A0_3 l0_3.length c0_3)] 35 (0,0))) ∧ Aside0 (Below w.heap.size w w'))
         case atStart=>exact ⟨(x3_1 ++ ((⟨#[112,114,105,109,97,114,121,32]⟩ : ByteArray) ++ t351)),(0),(by first | rfl | (simp;done) | (simp [*];done)),(by first | rfl | (simp;done) | (simp [*];done)),H', ⟨Nat.le_refl _⟩,⟨by exact kZ_ BK343⟩,⟨by exact bZ_ HB⟩⟩
         case round =>
          clear H'
          clear c10b0 c41 c41b0 c41b1 c41b2 c42 c42b0 c42b1 c42b2 hcz43_0 hcz43_1 hcz43_2 hcz43_3 hcz45_0 hcz45_1 hcz45_2 hcz45_3 hfz43_0 hfz43_1 hfz43_2 hfz43_3 hfz45_0 hfz45_1 hfz45_2 hfz45_3
          obtain ⟨x3_2,x51_2,rfl,rfl,HA,HK2,BK343,HB⟩:=hrel
          cases gk with
          | zero=>exact absurd HA.out (by simp [impl_DefText.l1])
          | succ k2 =>
           have H:=HA.out
           clear HA
           simp only [impl_DefText.l1] at H
           by_cases c46 : x51_2 < (l0_3.length : Int)
           ·rw [if_pos c46] at H
            have c46b0 : decide (x51_2 < (l0_3.length : Int)) = true:=decide_eq_true c46
            clear c46
            by_cases c47 : 0 ≤ x51_2
            ·rw [if_pos c47] at H
             have c47b0 : decide (0 ≤ x51_2) = true:=decide_eq_true c47
             clear c47
             by_cases c48 : x51_2 < (l0_3.length : Int)
             ·rw [if_pos c48] at H
              have c48b0 : decide (x51_2 < (l0_3.length : Int)) = true:=decide_eq_true c48
              clear c48
              obtain ⟨bq49,hbq49⟩ : ∃ b_ : Bool,b_ = ((rd_T69 l0_3 x51_2).f1):=⟨_,rfl⟩
              replace H : (if bq49 = true then (if 7 + ((rd_T69 l0_3 x51_2).f0).size ≤ 9223372036854775807 then (if ((⟨#[117,110,105,113,117,101,32]⟩ : ByteArray) ++ ((rd_T69 l0_3 x51_2).f0)).size + 1 ≤ 9223372036854775807 then ((impl_partsText.f k2 a0_0 l0_1 l0_2 l0_3 ((rd_T69 l0_3 x51_2).f2)).bind fun t354=>(if (((⟨#[117,110,105,113,117,101,32]⟩ : ByteArray) ++ ((rd_T69 l0_3 x51_2).f0)) ++ (⟨#[32]⟩ : ByteArray)).size + t354.size ≤ 9223372036854775807 then (if x3_2.size + ((((⟨#[117,110,105,113,117,101,32]⟩ : ByteArray) ++ ((rd_T69 l0_3 x51_2).f0)) ++ (⟨#[32]⟩ : ByteArray)) ++ t354).size ≤ 9223372036854775807 then (impl_DefText.l1 k2 (x3_2 ++ ((((⟨#[117,110,105,113,117,101,32]⟩ : ByteArray) ++ ((rd_T69 l0_3 x51_2).f0)) ++ (⟨#[32]⟩ : ByteArray)) ++ t354)) l0_3 (l0_3.length : Int) (wrap64 (x51_2 + 1)) a0_0 l0_1 l0_2 l0_3) else (none)) else (none))) else (none)) else (none)) else (if 6 + ((rd_T69 l0_3 x51_2).f0).size ≤ 9223372036854775807 then (if ((⟨#[105,110,100,101,120,32]⟩ : ByteArray) ++ ((rd_T69 l0_3 x51_2).f0)).size + 1 ≤ 9223372036854775807 then ((impl_partsText.f k2 a0_0 l0_1 l0_2 l0_3 ((rd_T69 l0_3 x51_2).f2)).bind fun t355=>(if (((⟨#[105,110,100,101,120,32]⟩ : ByteArray) ++ ((rd_T69 l0_3 x51_2).f0)) ++ (⟨#[32]⟩ : ByteArray)).size + t355.size ≤ 9223372036854775807 then (if x3_2.size + ((((⟨#[105,110,100,101,120,32]⟩ : ByteArray) ++ ((rd_T69 l0_3 x51_2).f0)) ++ (⟨#[32]⟩ : ByteArray)) ++ t355).size ≤ 9223372036854775807 then (impl_DefText.l1 k2 (x3_2 ++ ((((⟨#[105,110,100,101,120,32]⟩ : ByteArray) ++ ((rd_T69 l0_3 x51_2).f0)) ++ (⟨#[32]⟩ : ByteArray)) ++ t355)) l0_3 (l0_3.length : Int) (wrap64 (x51_2 + 1)) a0_0 l0_1 l0_2 l0_3) else (none)) else (none))) else (none)) else (none))) = some r:=by rw [← hbq49] at H;exact H
              have Nbq49:=aM_ hbq49
              clear hbq49
              by_cases c50 : bq49 = true
              ·subst c50
               have H1 : (if 7 + ((rd_T69 l0_3 x51_2).f0).size ≤ 9223372036854775807 then (if ((⟨#[117,110,105,113,117,101,32]⟩ : ByteArray) ++ ((rd_T69 l0_3 x51_2).f0)).size + 1 ≤ 9223372036854775807 then ((impl_partsText.f k2 a0_0 l0_1 l0_2 l0_3 ((rd_T69 l0_3 x51_2).f2)).bind fun t354=>(if (((⟨#[117,110,105,113,117,101,32]⟩ : ByteArray) ++ ((rd_T69 l0_3 x51_2).f0)) ++ (⟨#[32]⟩ : ByteArray)).size + t354.size ≤ 9223372036854775807 then (if x3_2.size + ((((⟨#[117,110,105,113,117,101,32]⟩ : ByteArray) ++ ((rd_T69 l0_3 x51_2).f0)) ++ (⟨#[32]⟩ : ByteArray)) ++ t354).size ≤ 9223372036854775807 then (impl_DefText.l1 k2 (x3_2 ++ ((((⟨#[117,110,105,113,117,101,32]⟩ : ByteArray) ++ ((rd_T69 l0_3 x51_2).f0)) ++ (⟨#[32]⟩ : ByteArray)) ++ t354)) l0_3 (l0_3.length : Int) (wrap64 (x51_2 + 1)) a0_0 l0_1 l0_2 l0_3) else (none)) else (none))) else (none)) else (none)) = some r:=by rw [if_pos rfl] at H;exact H
               clear H
               have H:=H1
               clear H1
               by_cases c51 : 7 + ((rd_T69 l0_3 x51_2).f0).size ≤ 9223372036854775807
               ·rw [if_pos c51] at H
                have c51b0:=eq_true c51
                have c51b1 : decide (7 + ((rd_T69 l0_3 x51_2).f0).size ≤ 9223372036854775807) = true:=decide_eq_true c51
                try have c51b2 : (9223372036854775807 < 7 + ((rd_T69 l0_3 x51_2).f0).size) = False:=eq_false (Nat.not_lt.2 c51)
                by_cases c52 : ((⟨#[117,110,105,113,117,101,32]⟩ : ByteArray) ++ ((rd_T69 l0_3 x51_2).f0)).size + 1 ≤ 9223372036854775807
                ·rw [if_pos c52] at H
                 have c52b0:=eq_true c52
                 have c52b1 : decide (((⟨#[117,110,105,113,117,101,32]⟩ : ByteArray) ++ ((rd_T69 l0_3 x51_2).f0)).size + 1 ≤ 9223372036854775807) = true:=decide_eq_true c52
                 try have c52b2 : (9223372036854775807 < ((⟨#[117,110,105,113,117,101,32]⟩ : ByteArray) ++ ((rd_T69 l0_3 x51_2).f0)).size + 1) = False:=eq_false (Nat.not_lt.2 c52)
                 have c52b3:=eq_false (Nat.not_lt.2 c52);(repeat rw [ByteArray.size_append] at c52b3);(try rw [show (⟨#[117,110,105,113,117,101,32]⟩ : ByteArray).size = 7 from rfl] at c52b3)
                 replace H:=oB_ H
                 obtain ⟨t354,A530,H⟩:=H
                 replace H : (if (((⟨#[117,110,105,113,117,101,32]⟩ : ByteArray) ++ ((rd_T69 l0_3 x51_2).f0)) ++ (⟨#[32]⟩ : ByteArray)).size + t354.size ≤ 9223372036854775807 then (if x3_2.size + ((((⟨#[117,110,105,113,117,101,32]⟩ : ByteArray) ++ ((rd_T69 l0_3 x51_2).f0)) ++ (⟨#[32]⟩ : ByteArray)) ++ t354).size ≤ 9223372036854775807 then (impl_DefText.l1 k2 (x3_2 ++ ((((⟨#[117,110,105,113,117,101,32]⟩ : ByteArray) ++ ((rd_T69 l0_3 x51_2).f0)) ++ (⟨#[32]⟩ : ByteArray)) ++ t354)) l0_3 (l0_3.length : Int) (wrap64 (x51_2 + 1)) a0_0 l0_1 l0_2 l0_3) else (none)) else (none)) = some r:=H
                 have A53:=aM_ A530
                 clear A530
                 by_cases c54 : (((⟨#[117,110,105,113,117,101,32]⟩ : ByteArray) ++ ((rd_T69 l0_3 x51_2).f0)) ++ (⟨#[32]⟩ : ByteArray)).size + t354.size ≤ 9223372036854775807
                 ·rw [if_pos c54] at H
                  have c54b0:=eq_true c54
                  have c54b1 : decide ((((⟨#[117,110,105,113,117,101,32]⟩ : ByteArray) ++ ((rd_T69 l0_3 x51_2).f0)) ++ (⟨#[32]⟩ : ByteArray)).size + t354.size ≤ 9223372036854775807) = true:=decide_eq_true c54
                  try have c54b2 : (9223372036854775807 < (((⟨#[117,110,105,113,117,101,32]⟩ : ByteArray) ++ ((rd_T69 l0_3 x51_2).f0)) ++ (⟨#[32]⟩ : ByteArray)).size + t354.size) = False:=eq_false (Nat.not_lt.2 c54)
                  have c54b3:=eq_false (Nat.not_lt.2 c54);(repeat rw [ByteArray.size_append] at c54b3);(try rw [show (⟨#[117,110,105,113,117,101,32]⟩ : ByteArray).size = 7 from rfl] at c54b3);(try rw [show (⟨#[32]⟩ : ByteArray).size = 1 from rfl] at c54b3)
                  by_cases c55 : x3_2.size + ((((⟨#[117,110,105,113,117,101,32]⟩ : ByteArray) ++ ((rd_T69 l0_3 x51_2).f0)) ++ (⟨#[32]⟩ : ByteArray)) ++ t354).size ≤ 9223372036854775807
                  ·rw [if_pos c55] at H
                   have c55b0:=eq_true c55
                   have c55b1 : decide (x3_2.size + ((((⟨#[117,110,105,113,117,101,32]⟩ : ByteArray) ++ ((rd_T69 l0_3 x51_2).f0)) ++ (⟨#[32]⟩ : ByteArray)) ++ t354).size ≤ 9223372036854775807) = true:=decide_eq_true c55
                   try have c55b2 : (9223372036854775807 < x3_2.size + ((((⟨#[117,110,105,113,117,101,32]⟩ : ByteArray) ++ ((rd_T69 l0_3 x51_2).f0)) ++ (⟨#[32]⟩ : ByteArray)) ++ t354).size) = False:=eq_false (Nat.not_lt.2 c55)
                   have c55b3:=eq_false (Nat.not_lt.2 c55);(repeat rw [ByteArray.size_append] at c55b3);(try rw [show (⟨#[117,110,105,113,117,101,32]⟩ : ByteArray).size = 7 from rfl] at c55b3);(try rw [show (⟨#[32]⟩ : ByteArray).size = 1 from rfl] at c55b3)
                   have H':=aM_ H
                   clear H
                   have p352 : 0 ≤ (x51_2 : Int):=oT_ (by first | (with_reducible assumption) | assumption)
                   have q352 : x51_2 < (l0_3.length : Int):=oT_ (by first | (with_reducible assumption) | assumption)
                   obtain ⟨ad352,A352_2,c352_2,e352,hx352_0,hx352_1,hx352_2,hl352_2,hi352_2⟩:=at_T69 HR0_3.out x51_2 p352 q352
                   (try rw [← Nbq49.out] at hx352_1)
                   cases e352
                   replace hx352_0:=(HB.out.cell (wL_ w _ hx352_0)).trans hx352_0
                   replace hx352_1:=(HB.out.cell (wL_ w _ hx352_1)).trans hx352_1
                   replace hx352_2:=(HB.out.cell (wL_ w _ hx352_2)).trans hx352_2
                   have HR352_2:=aM_ hi352_2
                   have HC352_2:=aM_ hl352_2
                   clear hi352_2 hl352_2
                   replace p352:=eq_true p352
                   replace q352:=eq_true q352
                   try go_wp2_with (first | ((with_reducible refine gate_dst (N:=7) rfl ?_);refine box_event ?hg (N:=7) ?hd (cs:=#[.string (⟨#[]⟩ : ByteArray),.bool false,.slice none 0 0]) (t:=69) ?hr ?_;(case hd=>rfl);(case hg=>rfl);(case hr=>first | (go_simp;done) | (go_simp;rfl));intro gb353 hg w56 hbox hb;have n0_:=aM_ (blk_below (g:=gb343) (o:=.cells #[.string a0_0,.slice A0_1 l0_1.length c0_1,.slice A0_2 l0_2.length c0_2,.slice (some ad352) l0_3.length c0_3] 35 (0,0)) (by exact kZ_ BK343) hb);have n1_:=aM_ (bT_ (by exact bZ_ HB) hb);have n2_:=aM_ (hbox);have n3_:=aM_ ((by rw [hg];exact (bS_ (by exact bZ_ HB)) : w.heap.size ≤ gb353));have n4_:=aM_ ((by rw [hg];exact (bS_ (by exact bZ_ HB)) : w.heap.size ≤ gb353));have n5_:=aM_ ((by rw [hg];exact nN_ (blk_lt (g:=gb343) (o:=.cells #[.string a0_0,.slice A0_1 l0_1.length c0_1,.slice A0_2 l0_2.length c0_2,.slice (some ad352) l0_3.length c0_3] 35 (0,0)) (by exact kZ_ BK343)) : gb343 ≠ gb353));have n6_:=aM_ ((by rw [hg];exact Nat.ne_of_gt (blk_lt (g:=gb343) (o:=.cells #[.string a0_0,.slice A0_1 l0_1.length c0_1,.slice A0_2 l0_2.length c0_2,.slice (some ad352) l0_3.length c0_3] 35 (0,0)) (by exact kZ_ BK343)) : gb353 ≠ gb343));clear BK343 HB;have BK343:=n0_;have HB:=n1_;have BK353:=n2_;have GW353:=n3_;have GE353:=n4_;have NB343_353:=n5_;have NB353_343:=n6_;clear n0_ n1_ n2_ n3_ n4_ n5_ n6_ hb hbox hg;have hnb57:=NB353_343.out;have hnc57:=NB343_353.out;have hcz58_0 : w56.cell? ⟨gb353,0,none⟩ = some (.string (⟨#[]⟩ : ByteArray)):=(kC_ BK353.out 0).trans rfl;have hcz58_1 : w56.cell? ⟨gb353,1,none⟩ = some (.bool false):=(kC_ BK353.out 1).trans rfl;have hcz58_2 : w56.cell? ⟨gb353,2,none⟩ = some (.slice none 0 0):=(kC_ BK353.out 2).trans rfl;have hfz58_0:=kF_ BK353.out 0;have hfz58_1:=kF_ BK353.out 1;have hfz58_2:=kF_ BK353.out 2))
                   have n0_ : Aside0 ((((w56.setCell ⟨gb353,0,none⟩ (.string ((rd_T69 l0_3 x51_2).f0))).setCell ⟨gb353,1,none⟩ (.bool true)).setCell ⟨gb353,2,none⟩ (.slice A352_2 ((rd_T69 l0_3 x51_2).f2).length c352_2)).heap[gb343]? = some (.cells #[.string a0_0,.slice A0_1 l0_1.length c0_1,.slice A0_2 l0_2.length c0_2,.slice (some ad352) l0_3.length c0_3] 35 (0,0))):=⟨by exact kW_ BK343⟩
                   have n1_ : Aside0 ((((w56.setCell ⟨gb353,0,none⟩ (.string ((rd_T69 l0_3 x51_2).f0))).setCell ⟨gb353,1,none⟩ (.bool true)).setCell ⟨gb353,2,none⟩ (.slice A352_2 ((rd_T69 l0_3 x51_2).f2).length c352_2)).heap[gb353]? = some (.cells #[.string ((rd_T69 l0_3 x51_2).f0),.bool true,.slice A352_2 ((rd_T69 l0_3 x51_2).f2).length c352_2] 69 (0,0))):=⟨by (with_reducible repeat (first | refine kN_ ?_ _ | refine kD_ ?_ | refine kA_ ?_ _));refine kP_ (cs:=#[.string ((rd_T69 l0_3 x51_2).f0),.bool true,.slice none 0 0]) ?_ 2 _ rfl;(with_reducible repeat (first | refine kN_ ?_ _ | refine kD_ ?_ | refine kA_ ?_ _));refine kP_ (cs:=#[.string ((rd_T69 l0_3 x51_2).f0),.bool false,.slice none 0 0]) ?_ 1 _ rfl;(with_reducible repeat (first | refine kN_ ?_ _ | refine kD_ ?_ | refine kA_ ?_ _));refine kP_ (cs:=#[.string (⟨#[]⟩ : ByteArray),.bool false,.slice none 0 0]) ?_ 0 _ rfl;exact kZ_ BK353⟩
                   have n2_ : Aside0 (Below w.heap.size w (((w56.setCell ⟨gb353,0,none⟩ (.string ((rd_T69 l0_3 x51_2).f0))).setCell ⟨gb353,1,none⟩ (.bool true)).setCell ⟨gb353,2,none⟩ (.slice A352_2 ((rd_T69 l0_3 x51_2).f2).length c352_2))):=⟨by exact bZ_ HB⟩
                   clear BK343 BK353 HB
                   generalize (((w56.setCell ⟨gb353,0,none⟩ (.string ((rd_T69 l0_3 x51_2).f0))).setCell ⟨gb353,1,none⟩ (.bool true)).setCell ⟨gb353,2,none⟩ (.slice A352_2 ((rd_T69 l0_3 x51_2).f2).length c352_2)) = w59 at n0_ n1_ n2_ ⊢
                   have BK343:=n0_
                   have BK353:=n1_
                   have HB:=n2_
                   clear n0_ n1_ n2_
                   have n0_:=aM_ (kD_ BK343.out)
                   have n1_:=aM_ (kD_ BK353.out)
                   have n2_:=aM_ (bD_ HB.out)
                   clear BK343 BK353 HB
                   have BK343:=n0_
                   have BK353:=n1_
                   have HB:=n2_
                   clear n0_ n1_ n2_
                   refine start_ (n:=13) (S:=fun w'=>w'.cell? ⟨gb353,0,none⟩ = some (.string ((rd_T69 l0_3 x51_2).f0)) ∧ w'.cell? ⟨gb353,1,none⟩ = some (.bool true) ∧ w'.cell? ⟨gb353,2,none⟩ = some (.slice A352_2 ((rd_T69 l0_3 x51_2).f2).length c352_2) ∧ w'.cell? ⟨gb343,0,none⟩ = some (.string a0_0) ∧ w'.cell? ⟨gb343,1,none⟩ = some (.slice A0_1 l0_1.length c0_1) ∧ w'.cell? ⟨gb343,2,none⟩ = some (.slice A0_2 l0_2.length c0_2) ∧ w'.cell? ⟨gb343,3,none⟩ = some (.slice (some ad352) l0_3.length c0_3)) (ds:=[]) (tb_ 0 13) (by kernel_rfl) rfl rfl ⟨(kC_ BK353.out 0).trans rfl,(kC_ BK353.out 1).trans rfl,(kC_ BK353.out 2).trans rfl,(kC_ BK343.out 0).trans rfl,(kC_ BK343.out 1).trans rfl,(kC_ BK343.out 2).trans rfl,(kC_ BK343.out 3).trans rfl⟩ (fun hHeld=>?_);refine with_tabW impl_DefText.tab19 impl_DefText.bits19 (fun HT_ HW_=>?_)
                   generalize w59.drew = w60 at BK343 BK353 HB hHeld ⊢
                   refine pure_ (i:=0) (N:=some 57) (v:=?_) (a':=?_) (tb_ 1 12) rfl rfl (any_of HT_.out (by kernel_rfl)) (fun _ _ _ h=>h) (Or.inl ⟨by rfl,?_⟩) ?_ ?_
                   rotate_left
                   ·intro w'
                    go_simp
                    with_reducible rfl
                   rotate_left
                   ·simp only [Act.put,sI_,sZ_,sS_,i64_w,i32_w]
                    rfl
                   refine pure_ (i:=1) (N:=some 58) (v:=?_) (a':=?_) (tb_ 2 11) rfl rfl (any_of HT_.out (by kernel_rfl)) (fun _ _ _ h=>h) (Or.inl ⟨by rfl,?_⟩) ?_ ?_
                   rotate_left
                   ·intro w'
                    go_simp
                    with_reducible rfl
                   rotate_left
                   ·simp only [Act.put,sI_,sZ_,sS_,i64_w,i32_w]
                    rfl
                   refine pure_ (i:=2) (N:=some 59) (v:=?_) (a':=?_) (tb_ 3 10) rfl rfl (any_of HT_.out (by kernel_rfl)) (fun _ _ _ h=>h) (Or.inl ⟨by rfl,?_⟩) ?_ ?_
                   rotate_left
                   ·intro w'
                    go_simp
                    with_reducible rfl
                   rotate_left
                   ·simp only [Act.put,sI_,sZ_,sS_,i64_w,i32_w]
                    rfl
                   refine pure_ (i:=7) (N:=some 64) (v:=?_) (a':=?_) #[true,true,true,false,false,false,false,true,false,false,false,false,false] rfl rfl (any_of HT_.out (by kernel_rfl)) (fun _ _ _ h=>h) (Or.inl ⟨by rfl,?_⟩) ?_ ?_
                   rotate_left
                   ·intro w'
                    go_simp
                    with_reducible rfl
                   rotate_left
                   ·simp only [Act.put,sI_,sZ_,sS_,i64_w,i32_w]
                    rfl
                   refine take_ (i:=3) (N:=some 60) (v:=?_) (a':=?_) #[true,true,true,true,false,false,false,true,false,false,false,false,false] rfl rfl (take_ofW HT_.out HW_.out (by kernel_rfl)) (fun _ _ _ h=>h) (Or.inl ⟨by rfl,?_⟩) hHeld ?_ ?_
                   rotate_left
                   ·rintro w' ⟨s0,s1,s2,s3,s4,s5,s6⟩
                    go_simp
                    with_reducible rfl
                   rotate_left
                   ·simp only [Act.put,sI_,sZ_,sS_,i64_w,i32_w]
                    rfl
                   refine pure_ (i:=4) (N:=some 61) (v:=?_) (a':=?_) #[true,true,true,true,true,false,false,true,false,false,false,false,false] rfl rfl (any_of HT_.out (by kernel_rfl)) (fun _ _ _ h=>h) (Or.inl ⟨by rfl,?_⟩) ?_ ?_
                   rotate_left
                   ·intro w'
                    go_simp
                    with_reducible rfl
                   rotate_left
                   ·simp only [Act.put,sI_,sZ_,sS_,i64_w,i32_w]
                    rfl
                   refine pure_ (i:=5) (N:=some 62) (v:=?_) (a':=?_) #[true,true,true,true,true,true,false,true,false,false,false,false,false] rfl rfl (any_of HT_.out (by kernel_rfl)) (fun _ _ _ h=>h) (Or.inl ⟨by rfl,?_⟩) ?_ ?_
                   rotate_left
                   ·intro w'
                    go_simp
                    with_reducible rfl
                   rotate_left
                   ·simp only [Act.put,sI_,sZ_,sS_,i64_w,i32_w]
                    rfl
                   refine take_ (i:=6) (N:=some 63) (v:=?_) (a':=?_) (tb_ 8 5) rfl rfl (take_ofW HT_.out HW_.out (by kernel_rfl)) (fun _ _ _ h=>h) (Or.inl ⟨by rfl,?_⟩) hHeld ?_ ?_
                   rotate_left
                   ·rintro w' ⟨s0,s1,s2,s3,s4,s5,s6⟩
                    go_simp
                    with_reducible rfl
                   rotate_left
                   ·simp only [Act.put,sI_,sZ_,sS_,i64_w,i32_w]
                    rfl
                   refine take_ (i:=8) (N:=some 65) (v:=?_) (a':=?_) (tb_ 9 4) rfl rfl (take_ofW HT_.out HW_.out (by kernel_rfl)) (fun _ _ _ h=>h) (Or.inl ⟨by rfl,?_⟩) hHeld ?_ ?_
                   rotate_left
                   ·rintro w' ⟨s0,s1,s2,s3,s4,s5,s6⟩
                    go_simp
                    with_reducible rfl
                   rotate_left
                   ·simp only [Act.put,sI_,sZ_,sS_,i64_w,i32_w]
                    rfl
                   refine one_ (i:=9) (N:=some 66) (tb_ 10 3) rfl rfl (one_of HT_.out (by kernel_rfl)) (by decide) (fun K hK=>?_)
                   refine goes_ Tryd.func65 (by kernel_rfl) rfl #[.agg #[.string a0_0,.slice A0_1 l0_1.length c0_1,.slice A0_2 l0_2.length c0_2,.slice (some ad352) l0_3.length c0_3],.slice A352_2 ((rd_T69 l0_3 x51_2).f2).length c352_2] (by rfl) rfl rfl (by (try simp only [mA_,mC_,mN_]);first | done | rfl | (simp only [lD_,lT_];rfl)) ?_
                   with_reducible refine (impl_partsText.calls k2 a0_0 _ _ l0_1 _ _ l0_2 _ _ l0_3 _ _ ((rd_T69 l0_3 x51_2).f2) t354 _ ?side1 ?side2 ?side3 ?side4 ?side5 ?side6 ?side7 ?side8 A53.out).mono ?_
                   (case side1=>exact cZ_ HR0_1 HB)
                   (case side2=>exact HC0_1.out)
                   (case side3=>exact cZ_ HR0_2 HB)
                   (case side4=>exact HC0_2.out)
                   (case side5=>exact cZ_ HR0_3 HB)
                   (case side6=>exact HC0_3.out)
                   (case side7=>exact cZ_ HR352_2 HB)
                   (case side8=>exact HC352_2.out)
                   rintro e w61 ⟨rfl,hb⟩
                   refine ⟨_,rfl,?_⟩
                   have n0_:=aM_ (blk_below (g:=gb343) (o:=.cells #[.string a0_0,.slice A0_1 l0_1.length c0_1,.slice A0_2 l0_2.length c0_2,.slice (some ad352) l0_3.length c0_3] 35 (0,0)) (by exact kZ_ BK343) hb)
                   have n1_:=aM_ (blk_below (g:=gb353) (o:=.cells #[.string ((rd_T69 l0_3 x51_2).f0),.bool true,.slice A352_2 ((rd_T69 l0_3 x51_2).f2).length c352_2] 69 (0,0)) (by exact kZ_ BK353) hb)
                   have n2_:=aM_ (bT_ (by exact bZ_ HB) hb)
                   clear BK343 BK353 HB
                   have BK343:=n0_
                   have BK353:=n1_
                   have HB:=n2_
                   clear n0_ n1_ n2_ hb
                   skip
                   skip
                   skip
                   refine hK.out _ _ ⟨(kC_ BK353.out 0).trans rfl,(kC_ BK353.out 1).trans rfl,(kC_ BK353.out 2).trans rfl,(kC_ BK343.out 0).trans rfl,(kC_ BK343.out 1).trans rfl,(kC_ BK343.out 2).trans rfl,(kC_ BK343.out 3).trans rfl⟩ (fun hHeld=>?_)
                   clear hK K
                   refine norm_ (a':=?_) ?_ ?_
                   rotate_left
                   ·show Act.put _ (some 66) _ = _
                    simp only [Act.put,sI_,sZ_,sS_,i64_w,i32_w]
                    rfl
                   refine pure_ (i:=10) (N:=some 67) (v:=?_) (a':=?_) (tb_ 11 2) rfl rfl (any_of HT_.out (by kernel_rfl)) (fun _ _ _ h=>h) (Or.inl ⟨by rfl,?_⟩) ?_ ?_
                   rotate_left
                   ·intro w'
                    go_simp
                    with_reducible rfl
                   rotate_left
                   ·simp only [Act.put,sI_,sZ_,sS_,i64_w,i32_w]
                    rfl
                   refine pure_ (i:=11) (N:=some 68) (v:=?_) (a':=?_) (tb_ 12 1) rfl rfl (any_of HT_.out (by kernel_rfl)) (fun _ _ _ h=>h) (Or.inl ⟨by rfl,?_⟩) ?_ ?_
                   rotate_left
                   ·intro w'
                    go_simp
                    with_reducible rfl
                   rotate_left
                   ·simp only [Act.put,sI_,sZ_,sS_,i64_w,i32_w]
                    rfl
                   refine pure_ (i:=12) (N:=some 3) (v:=?_) (a':=?_) (tb_ 13 0) rfl rfl (any_of HT_.out (by kernel_rfl)) (fun _ _ _ h=>h) (Or.inl ⟨by rfl,?_⟩) ?_ ?_
                   rotate_left
                   ·intro w'
                    go_simp
                    with_reducible rfl
                   rotate_left
                   ·simp only [Act.put,sI_,sZ_,sS_,i64_w,i32_w]
                    rfl
                   refine done_ (done_of HT_.out (by kernel_rfl)) ?_
                   try go_wp2
                   go_roundg k2
                   case measure=>have:=HK1.out;have:=HK2.out;omega
                   case rel=>exact ⟨(x3_2 ++ ((((⟨#[117,110,105,113,117,101,32]⟩ : ByteArray) ++ ((rd_T69 l0_3 x51_2).f0)) ++ (⟨#[32]⟩ : ByteArray)) ++ t354)),(wrap64 (x51_2 + 1)),(by first | rfl | (simp;done) | (simp [*];done)),(by first | rfl | (simp;done) | (simp [*];done)),H', ⟨by have:=HK1.out;have:=HK2.out;omega⟩,⟨by exact kZ_ BK343⟩,⟨by exact bZ_ HB⟩⟩
                  ·rw [if_neg c55] at H
                   exact absurd H (by simp)
                 ·rw [if_neg c54] at H
                  exact absurd H (by simp)
                ·rw [if_neg c52] at H
                 exact absurd H (by simp)
               ·rw [if_neg c51] at H
                exact absurd H (by simp)
              ·replace c50:=Bool.eq_false_iff.mpr c50
               subst c50
               have H1 : (if 6 + ((rd_T69 l0_3 x51_2).f0).size ≤ 9223372036854775807 then (if ((⟨#[105,110,100,101,120,32]⟩ : ByteArray) ++ ((rd_T69 l0_3 x51_2).f0)).size + 1 ≤ 9223372036854775807 then ((impl_partsText.f k2 a0_0 l0_1 l0_2 l0_3 ((rd_T69 l0_3 x51_2).f2)).bind fun t355=>(if (((⟨#[105,110,100,101,120,32]⟩ : ByteArray) ++ ((rd_T69 l0_3 x51_2).f0)) ++ (⟨#[32]⟩ : ByteArray)).size + t355.size ≤ 9223372036854775807 then (if x3_2.size + ((((⟨#[105,110,100,101,120,32]⟩ : ByteArray) ++ ((rd_T69 l0_3 x51_2).f0)) ++ (⟨#[32]⟩ : ByteArray)) ++ t355).size ≤ 9223372036854775807 then (impl_DefText.l1 k2 (x3_2 ++ ((((⟨#[105,110,100,101,120,32]⟩ : ByteArray) ++ ((rd_T69 l0_3 x51_2).f0)) ++ (⟨#[32]⟩ : ByteArray)) ++ t355)) l0_3 (l0_3.length : Int) (wrap64 (x51_2 + 1)) a0_0 l0_1 l0_2 l0_3) else (none)) else (none))) else (none)) else (none)) = some r:=by rw [if_neg (show ¬ (false = true) by decide)] at H;exact H
               clear H
               have H:=H1
               clear H1
               by_cases c62 : 6 + ((rd_T69 l0_3 x51_2).f0).size ≤ 9223372036854775807
               ·rw [if_pos c62] at H
                have c62b0:=eq_true c62
                have c62b1 : decide (6 + ((rd_T69 l0_3 x51_2).f0).size ≤ 9223372036854775807) = true:=decide_eq_true c62
                try have c62b2 : (9223372036854775807 < 6 + ((rd_T69 l0_3 x51_2).f0).size) = False:=eq_false (Nat.not_lt.2 c62)
                by_cases c63 : ((⟨#[105,110,100,101,120,32]⟩ : ByteArray) ++ ((rd_T69 l0_3 x51_2).f0)).size + 1 ≤ 9223372036854775807
                ·rw [if_pos c63] at H
                 have c63b0:=eq_true c63
                 have c63b1 : decide (((⟨#[105,110,100,101,120,32]⟩ : ByteArray) ++ ((rd_T69 l0_3 x51_2).f0)).size + 1 ≤ 9223372036854775807) = true:=decide_eq_true c63
                 try have c63b2 : (9223372036854775807 < ((⟨#[105,110,100,101,120,32]⟩ : ByteArray) ++ ((rd_T69 l0_3 x51_2).f0)).size + 1) = False:=eq_false (Nat.not_lt.2 c63)
                 have c63b3:=eq_false (Nat.not_lt.2 c63);(repeat rw [ByteArray.size_append] at c63b3);(try rw [show (⟨#[105,110,100,101,120,32]⟩ : ByteArray).size = 6 from rfl] at c63b3)
                 replace H:=oB_ H
                 obtain ⟨t355,A640,H⟩:=H
                 replace H : (if (((⟨#[105,110,100,101,120,32]⟩ : ByteArray) ++ ((rd_T69 l0_3 x51_2).f0)) ++ (⟨#[32]⟩ : ByteArray)).size + t355.size ≤ 9223372036854775807 then (if x3_2.size + ((((⟨#[105,110,100,101,120,32]⟩ : ByteArray) ++ ((rd_T69 l0_3 x51_2).f0)) ++ (⟨#[32]⟩ : ByteArray)) ++ t355).size ≤ 9223372036854775807 then (impl_DefText.l1 k2 (x3_2 ++ ((((⟨#[105,110,100,101,120,32]⟩ : ByteArray) ++ ((rd_T69 l0_3 x51_2).f0)) ++ (⟨#[32]⟩ : ByteArray)) ++ t355)) l0_3 (l0_3.length : Int) (wrap64 (x51_2 + 1)) a0_0 l0_1 l0_2 l0_3) else (none)) else (none)) = some r:=H
                 have A64:=aM_ A640
                 clear A640
                 by_cases c65 : (((⟨#[105,110,100,101,120,32]⟩ : ByteArray) ++ ((rd_T69 l0_3 x51_2).f0)) ++ (⟨#[32]⟩ : ByteArray)).size + t355.size ≤ 9223372036854775807
                 ·rw [if_pos c65] at H
                  have c65b0:=eq_true c65
                  have c65b1 : decide ((((⟨#[105,110,100,101,120,32]⟩ : ByteArray) ++ ((rd_T69 l0_3 x51_2).f0)) ++ (⟨#[32]⟩ : ByteArray)).size + t355.size ≤ 9223372036854775807) = true:=decide_eq_true c65
                  try have c65b2 : (9223372036854775807 < (((⟨#[105,110,100,101,120,32]⟩ : ByteArray) ++ ((rd_T69 l0_3 x51_2).f0)) ++ (⟨#[32]⟩ : ByteArray)).size + t355.size) = False:=eq_false (Nat.not_lt.2 c65)
                  have c65b3:=eq_false (Nat.not_lt.2 c65);(repeat rw [ByteArray.size_append] at c65b3);(try rw [show (⟨#[105,110,100,101,120,32]⟩ : ByteArray).size = 6 from rfl] at c65b3);(try rw [show (⟨#[32]⟩ : ByteArray).size = 1 from rfl] at c65b3)
                  by_cases c66 : x3_2.size + ((((⟨#[105,110,100,101,120,32]⟩ : ByteArray) ++ ((rd_T69 l0_3 x51_2).f0)) ++ (⟨#[32]⟩ : ByteArray)) ++ t355).size ≤ 9223372036854775807
                  ·rw [if_pos c66] at H
                   have c66b0:=eq_true c66
                   have c66b1 : decide (x3_2.size + ((((⟨#[105,110,100,101,120,32]⟩ : ByteArray) ++ ((rd_T69 l0_3 x51_2).f0)) ++ (⟨#[32]⟩ : ByteArray)) ++ t355).size ≤ 9223372036854775807) = true:=decide_eq_true c66
                   try have c66b2 : (9223372036854775807 < x3_2.size + ((((⟨#[105,110,100,101,120,32]⟩ : ByteArray) ++ ((rd_T69 l0_3 x51_2).f0)) ++ (⟨#[32]⟩ : ByteArray)) ++ t355).size) = False:=eq_false (Nat.not_lt.2 c66)
                   have c66b3:=eq_false (Nat.not_lt.2 c66);(repeat rw [ByteArray.size_append] at c66b3);(try rw [show (⟨#[105,110,100,101,120,32]⟩ : ByteArray).size = 6 from rfl] at c66b3);(try rw [show (⟨#[32]⟩ : ByteArray).size = 1 from rfl] at c66b3)
                   have H':=aM_ H
                   clear H
                   have p352 : 0 ≤ (x51_2 : Int):=oT_ (by first | (with_reducible assumption) | assumption)
                   have q352 : x51_2 < (l0_3.length : Int):=oT_ (by first | (with_reducible assumption) | assumption)
                   obtain ⟨ad352,A352_2,c352_2,e352,hx352_0,hx352_1,hx352_2,hl352_2,hi352_2⟩:=at_T69 HR0_3.out x51_2 p352 q352
                   (try rw [← Nbq49.out] at hx352_1)
                   cases e352
                   replace hx352_0:=(HB.out.cell (wL_ w _ hx352_0)).trans hx352_0
                   replace hx352_1:=(HB.out.cell (wL_ w _ hx352_1)).trans hx352_1
                   replace hx352_2:=(HB.out.cell (wL_ w _ hx352_2)).trans hx352_2
                   have HR352_2:=aM_ hi352_2
                   have HC352_2:=aM_ hl352_2
                   clear hi352_2 hl352_2
                   replace p352:=eq_true p352
                   replace q352:=eq_true q352
                   try go_wp2_with (first | ((with_reducible refine gate_dst (N:=7) rfl ?_);refine box_event ?hg (N:=7) ?hd (cs:=#[.string (⟨#[]⟩ : ByteArray),.bool false,.slice none 0 0]) (t:=69) ?hr ?_;(case hd=>rfl);(case hg=>rfl);(case hr=>first | (go_simp;done) | (go_simp;rfl));intro gb353 hg w67 hbox hb;have n0_:=aM_ (blk_below (g:=gb343) (o:=.cells #[.string a0_0,.slice A0_1 l0_1.length c0_1,.slice A0_2 l0_2.length c0_2,.slice (some ad352) l0_3.length c0_3] 35 (0,0)) (by exact kZ_ BK343) hb);have n1_:=aM_ (bT_ (by exact bZ_ HB) hb);have n2_:=aM_ (hbox);have n3_:=aM_ ((by rw [hg];exact (bS_ (by exact bZ_ HB)) : w.heap.size ≤ gb353));have n4_:=aM_ ((by rw [hg];exact (bS_ (by exact bZ_ HB)) : w.heap.size ≤ gb353));have n5_:=aM_ ((by rw [hg];exact nN_ (blk_lt (g:=gb343) (o:=.cells #[.string a0_0,.slice A0_1 l0_1.length c0_1,.slice A0_2 l0_2.length c0_2,.slice (some ad352) l0_3.length c0_3] 35 (0,0)) (by exact kZ_ BK343)) : gb343 ≠ gb353));have n6_:=aM_ ((by rw [hg];exact Nat.ne_of_gt (blk_lt (g:=gb343) (o:=.cells #[.string a0_0,.slice A0_1 l0_1.length c0_1,.slice A0_2 l0_2.length c0_2,.slice (some ad352) l0_3.length c0_3] 35 (0,0)) (by exact kZ_ BK343)) : gb353 ≠ gb343));clear BK343 HB;have BK343:=n0_;have HB:=n1_;have BK353:=n2_;have GW353:=n3_;have GE353:=n4_;have NB343_353:=n5_;have NB353_343:=n6_;clear n0_ n1_ n2_ n3_ n4_ n5_ n6_ hb hbox hg;have hnb68:=NB353_343.out;have hnc68:=NB343_353.out;have hcz69_0 : w67.cell? ⟨gb353,0,none⟩ = some (.string (⟨#[]⟩ : ByteArray)):=(kC_ BK353.out 0).trans rfl;have hcz69_1 : w67.cell? ⟨gb353,1,none⟩ = some (.bool false):=(kC_ BK353.out 1).trans rfl;have hcz69_2 : w67.cell? ⟨gb353,2,none⟩ = some (.slice none 0 0):=(kC_ BK353.out 2).trans rfl;have hfz69_0:=kF_ BK353.out 0;have hfz69_1:=kF_ BK353.out 1;have hfz69_2:=kF_ BK353.out 2))
                   have n0_ : Aside0 ((((w67.setCell ⟨gb353,0,none⟩ (.string ((rd_T69 l0_3 x51_2).f0))).setCell ⟨gb353,1,none⟩ (.bool false)).setCell ⟨gb353,2,none⟩ (.slice A352_2 ((rd_T69 l0_3 x51_2).f2).length c352_2)).heap[gb343]? = some (.cells #[.string a0_0,.slice A0_1 l0_1.length c0_1,.slice A0_2 l0_2.length c0_2,.slice (some ad352) l0_3.length c0_3] 35 (0,0))):=⟨by exact kW_ BK343⟩
                   have n1_ : Aside0 ((((w67.setCell ⟨gb353,0,none⟩ (.string ((rd_T69 l0_3 x51_2).f0))).setCell ⟨gb353,1,none⟩ (.bool false)).setCell ⟨gb353,2,none⟩ (.slice A352_2 ((rd_T69 l0_3 x51_2).f2).length c352_2)).heap[gb353]? = some (.cells #[.string ((rd_T69 l0_3 x51_2).f0),.bool false,.slice A352_2 ((rd_T69 l0_3 x51_2).f2).length c352_2] 69 (0,0))):=⟨by (with_reducible repeat (first | refine kN_ ?_ _ | refine kD_ ?_ | refine kA_ ?_ _));refine kP_ (cs:=#[.string ((rd_T69 l0_3 x51_2).f0),.bool false,.slice none 0 0]) ?_ 2 _ rfl;(with_reducible repeat (first | refine kN_ ?_ _ | refine kD_ ?_ | refine kA_ ?_ _));refine kP_ (cs:=#[.string ((rd_T69 l0_3 x51_2).f0),.bool false,.slice none 0 0]) ?_ 1 _ rfl;(with_reducible repeat (first | refine kN_ ?_ _ | refine kD_ ?_ | refine kA_ ?_ _));refine kP_ (cs:=#[.string (⟨#[]⟩ : ByteArray),.bool false,.slice none 0 0]) ?_ 0 _ rfl;exact kZ_ BK353⟩
                   have n2_ : Aside0 (Below w.heap.size w (((w67.setCell ⟨gb353,0,none⟩ (.string ((rd_T69 l0_3 x51_2).f0))).setCell ⟨gb353,1,none⟩ (.bool false)).setCell ⟨gb353,2,none⟩ (.slice A352_2 ((rd_T69 l0_3 x51_2).f2).length c352_2))):=⟨by exact bZ_ HB⟩
                   clear BK343 BK353 HB
                   generalize (((w67.setCell ⟨gb353,0,none⟩ (.string ((rd_T69 l0_3 x51_2).f0))).setCell ⟨gb353,1,none⟩ (.bool false)).setCell ⟨gb353,2,none⟩ (.slice A352_2 ((rd_T69 l0_3 x51_2).f2).length c352_2)) = w70 at n0_ n1_ n2_ ⊢
                   have BK343:=n0_
                   have BK353:=n1_
                   have HB:=n2_
                   clear n0_ n1_ n2_
                   have n0_:=aM_ (kD_ BK343.out)
                   have n1_:=aM_ (kD_ BK353.out)
                   have n2_:=aM_ (bD_ HB.out)
                   clear BK343 BK353 HB
                   have BK343:=n0_
                   have BK353:=n1_
                   have HB:=n2_
                   clear n0_ n1_ n2_
                   refine start_ (n:=13) (S:=fun w'=>w'.cell? ⟨gb353,0,none⟩ = some (.string ((rd_T69 l0_3 x51_2).f0)) ∧ w'.cell? ⟨gb353,1,none⟩ = some (.bool false) ∧ w'.cell? ⟨gb353,2,none⟩ = some (.slice A352_2 ((rd_T69 l0_3 x51_2).f2).length c352_2) ∧ w'.cell? ⟨gb343,0,none⟩ = some (.string a0_0) ∧ w'.cell? ⟨gb343,1,none⟩ = some (.slice A0_1 l0_1.length c0_1) ∧ w'.cell? ⟨gb343,2,none⟩ = some (.slice A0_2 l0_2.length c0_2) ∧ w'.cell? ⟨gb343,3,none⟩ = some (.slice (some ad352) l0_3.length c0_3)) (ds:=[]) (tb_ 0 13) (by kernel_rfl) rfl rfl ⟨(kC_ BK353.out 0).trans rfl,(kC_ BK353.out 1).trans rfl,(kC_ BK353.out 2).trans rfl,(kC_ BK343.out 0).trans rfl,(kC_ BK343.out 1).trans rfl,(kC_ BK343.out 2).trans rfl,(kC_ BK343.out 3).trans rfl⟩ (fun hHeld=>?_);refine with_tabW impl_DefText.tab19 impl_DefText.bits19 (fun HT_ HW_=>?_)
                   generalize w70.drew = w71 at BK343 BK353 HB hHeld ⊢
                   refine pure_ (i:=0) (N:=some 57) (v:=?_) (a':=?_) (tb_ 1 12) rfl rfl (any_of HT_.out (by kernel_rfl)) (fun _ _ _ h=>h) (Or.inl ⟨by rfl,?_⟩) ?_ ?_
                   rotate_left
                   ·intro w'
                    go_simp
                    with_reducible rfl
                   rotate_left
                   ·simp only [Act.put,sI_,sZ_,sS_,i64_w,i32_w]
                    rfl
                   refine pure_ (i:=1) (N:=some 58) (v:=?_) (a':=?_) (tb_ 2 11) rfl rfl (any_of HT_.out (by kernel_rfl)) (fun _ _ _ h=>h) (Or.inl ⟨by rfl,?_⟩) ?_ ?_
                   rotate_left
                   ·intro w'
                    go_simp
                    with_reducible rfl
                   rotate_left
                   ·simp only [Act.put,sI_,sZ_,sS_,i64_w,i32_w]
                    rfl
                   refine pure_ (i:=2) (N:=some 59) (v:=?_) (a':=?_) (tb_ 3 10) rfl rfl (any_of HT_.out (by kernel_rfl)) (fun _ _ _ h=>h) (Or.inl ⟨by rfl,?_⟩) ?_ ?_
                   rotate_left
                   ·intro w'
                    go_simp
                    with_reducible rfl
                   rotate_left
                   ·simp only [Act.put,sI_,sZ_,sS_,i64_w,i32_w]
                    rfl
                   refine pure_ (i:=7) (N:=some 64) (v:=?_) (a':=?_) #[true,true,true,false,false,false,false,true,false,false,false,false,false] rfl rfl (any_of HT_.out (by kernel_rfl)) (fun _ _ _ h=>h) (Or.inl ⟨by rfl,?_⟩) ?_ ?_
                   rotate_left
                   ·intro w'
                    go_simp
                    with_reducible rfl
                   rotate_left
                   ·simp only [Act.put,sI_,sZ_,sS_,i64_w,i32_w]
                    rfl
                   refine take_ (i:=3) (N:=some 60) (v:=?_) (a':=?_) #[true,true,true,true,false,false,false,true,false,false,false,false,false] rfl rfl (take_ofW HT_.out HW_.out (by kernel_rfl)) (fun _ _ _ h=>h) (Or.inl ⟨by rfl,?_⟩) hHeld ?_ ?_
                   rotate_left
                   ·rintro w' ⟨s0,s1,s2,s3,s4,s5,s6⟩
                    go_simp
                    with_reducible rfl
                   rotate_left
                   ·simp only [Act.put,sI_,sZ_,sS_,i64_w,i32_w]
                    rfl
                   refine pure_ (i:=4) (N:=some 61) (v:=?_) (a':=?_) #[true,true,true,true,true,false,false,true,false,false,false,false,false] rfl rfl (any_of HT_.out (by kernel_rfl)) (fun _ _ _ h=>h) (Or.inl ⟨by rfl,?_⟩) ?_ ?_
                   rotate_left
                   ·intro w'
                    go_simp
                    with_reducible rfl
                   rotate_left
                   ·simp only [Act.put,sI_,sZ_,sS_,i64_w,i32_w]
                    rfl
                   refine pure_ (i:=5) (N:=some 62) (v:=?_) (a':=?_) #[true,true,true,true,true,true,false,true,false,false,false,false,false] rfl rfl (any_of HT_.out (by kernel_rfl)) (fun _ _ _ h=>h) (Or.inl ⟨by rfl,?_⟩) ?_ ?_
                   rotate_left
                   ·intro w'
                    go_simp
                    with_reducible rfl
                   rotate_left
                   ·simp only [Act.put,sI_,sZ_,sS_,i64_w,i32_w]
                    rfl
                   refine take_ (i:=6) (N:=some 63) (v:=?_) (a':=?_) (tb_ 8 5) rfl rfl (take_ofW HT_.out HW_.out (by kernel_rfl)) (fun _ _ _ h=>h) (Or.inl ⟨by rfl,?_⟩) hHeld ?_ ?_
                   rotate_left
                   ·rintro w' ⟨s0,s1,s2,s3,s4,s5,s6⟩
                    go_simp
                    with_reducible rfl
                   rotate_left
                   ·simp only [Act.put,sI_,sZ_,sS_,i64_w,i32_w]
                    rfl
                   refine take_ (i:=8) (N:=some 65) (v:=?_) (a':=?_) (tb_ 9 4) rfl rfl (take_ofW HT_.out HW_.out (by kernel_rfl)) (fun _ _ _ h=>h) (Or.inl ⟨by rfl,?_⟩) hHeld ?_ ?_
                   rotate_left
                   ·rintro w' ⟨s0,s1,s2,s3,s4,s5,s6⟩
                    go_simp
                    with_reducible rfl
                   rotate_left
                   ·simp only [Act.put,sI_,sZ_,sS_,i64_w,i32_w]
                    rfl
                   refine one_ (i:=9) (N:=some 66) (tb_ 10 3) rfl rfl (one_of HT_.out (by kernel_rfl)) (by decide) (fun K hK=>?_)
                   refine goes_ Tryd.func65 (by kernel_rfl) rfl #[.agg #[.string a0_0,.slice A0_1 l0_1.length c0_1,.slice A0_2 l0_2.length c0_2,.slice (some ad352) l0_3.length c0_3],.slice A352_2 ((rd_T69 l0_3 x51_2).f2).length c352_2] (by rfl) rfl rfl (by (try simp only [mA_,mC_,mN_]);first | done | rfl | (simp only [lD_,lT_];rfl)) ?_
                   with_reducible refine (impl_partsText.calls k2 a0_0 _ _ l0_1 _ _ l0_2 _ _ l0_3 _ _ ((rd_T69 l0_3 x51_2).f2) t355 _ ?side1 ?side2 ?side3 ?side4 ?side5 ?side6 ?side7 ?side8 A64.out).mono ?_
                   (case side1=>exact cZ_ HR0_1 HB)
                   (case side2=>exact HC0_1.out)
                   (case side3=>exact cZ_ HR0_2 HB)
                   (case side4=>exact HC0_2.out)
                   (case side5=>exact cZ_ HR0_3 HB)
                   (case side6=>exact HC0_3.out)
                   (case side7=>exact cZ_ HR352_2 HB)
                   (case side8=>exact HC352_2.out)
                   rintro e w72 ⟨rfl,hb⟩
                   refine ⟨_,rfl,?_⟩
                   have n0_:=aM_ (blk_below (g:=gb343) (o:=.cells #[.string a0_0,.slice A0_1 l0_1.length c0_1,.slice A0_2 l0_2.length c0_2,.slice (some ad352) l0_3.length c0_3] 35 (0,0)) (by exact kZ_ BK343) hb)
                   have n1_:=aM_ (blk_below (g:=gb353) (o:=.cells #[.string ((rd_T69 l0_3 x51_2).f0),.bool false,.slice A352_2 ((rd_T69 l0_3 x51_2).f2).length c352_2] 69 (0,0)) (by exact kZ_ BK353) hb)
                   have n2_:=aM_ (bT_ (by exact bZ_ HB) hb)
                   clear BK343 BK353 HB
                   have BK343:=n0_
                   have BK353:=n1_
                   have HB:=n2_
                   clear n0_ n1_ n2_ hb
                   skip
                   skip
                   skip
                   refine hK.out _ _ ⟨(kC_ BK353.out 0).trans rfl,(kC_ BK353.out 1).trans rfl,(kC_ BK353.out 2).trans rfl,(kC_ BK343.out 0).trans rfl,(kC_ BK343.out 1).trans rfl,(kC_ BK343.out 2).trans rfl,(kC_ BK343.out 3).trans rfl⟩ (fun hHeld=>?_)
                   clear hK K
                   refine norm_ (a':=?_) ?_ ?_
                   rotate_left
                   ·show Act.put _ (some 66) _ = _
                    simp only [Act.put,sI_,sZ_,sS_,i64_w,i32_w]
                    rfl
                   refine pure_ (i:=10) (N:=some 67) (v:=?_) (a':=?_) (tb_ 11 2) rfl rfl (any_of HT_.out (by kernel_rfl)) (fun _ _ _ h=>h) (Or.inl ⟨by rfl,?_⟩) ?_ ?_
                   rotate_left
                   ·intro w'
                    go_simp
                    with_reducible rfl
                   rotate_left
                   ·simp only [Act.put,sI_,sZ_,sS_,i64_w,i32_w]
                    rfl
                   refine pure_ (i:=11) (N:=some 68) (v:=?_) (a':=?_) (tb_ 12 1) rfl rfl (any_of HT_.out (by kernel_rfl)) (fun _ _ _ h=>h) (Or.inl ⟨by rfl,?_⟩) ?_ ?_
                   rotate_left
                   ·intro w'
                    go_simp
                    with_reducible rfl
                   rotate_left
                   ·simp only [Act.put,sI_,sZ_,sS_,i64_w,i32_w]
                    rfl
                   refine pure_ (i:=12) (N:=some 3) (v:=?_) (a':=?_) (tb_ 13 0) rfl rfl (any_of HT_.out (by kernel_rfl)) (fun _ _ _ h=>h) (Or.inl ⟨by rfl,?_⟩) ?_ ?_
                   rotate_left
                   ·intro w'
                    go_simp
                    with_reducible rfl
                   rotate_left
                   ·simp only [Act.put,sI_,sZ_,sS_,i64_w,i32_w]
                    rfl
                   refine done_ (done_of HT_.out (by kernel_rfl)) ?_
                   try go_wp2
                   go_roundg k2
                   case measure=>have:=HK1.out;have:=HK2.out;omega
                   case rel=>exact ⟨(x3_2 ++ ((((⟨#[105,110,100,101,120,32]⟩ : ByteArray) ++ ((rd_T69 l0_3 x51_2).f0)) ++ (⟨#[32]⟩ : ByteArray)) ++ t355)),(wrap64 (x51_2 + 1)),(by first | rfl | (simp;done) | (simp [*];done)),(by first | rfl | (simp;done) | (simp [*];done)),H', ⟨by have:=HK1.out;have:=HK2.out;omega⟩,⟨by exact kZ_ BK343⟩,⟨by exact bZ_ HB⟩⟩
                  ·rw [if_neg c66] at H
                   exact absurd H (by simp)
                 ·rw [if_neg c65] at H
                  exact absurd H (by simp)
                ·rw [if_neg c63] at H
                 exact absurd H (by simp)
               ·rw [if_neg c62] at H
                exact absurd H (by simp)
             ·rw [if_neg c48] at H
              exact absurd H (by simp)
            ·rw [if_neg c47] at H
             exact absurd H (by simp)
           ·rw [if_neg c46] at H
            have c46b0 : decide (x51_2 < (l0_3.length : Int)) = false:=decide_eq_false c46
            clear c46
            by_cases c73 : x3_2.size + 1 ≤ 9223372036854775807
            ·rw [if_pos c73] at H
             have c73b0:=eq_true c73
             have c73b1 : decide (x3_2.size + 1 ≤ 9223372036854775807) = true:=decide_eq_true c73
             try have c73b2 : (9223372036854775807 < x3_2.size + 1) = False:=eq_false (Nat.not_lt.2 c73)
             obtain rfl:=Option.some.inj H
             go_wp2
             go_ret
             exact ⟨by first | rfl | (simp [errW_none,errW_some] <;> rfl) | (simp [*, errW_none,errW_some] <;> rfl),by exact bZ_ HB⟩
            ·rw [if_neg c73] at H
             exact absurd H (by simp)
        ·rw [if_neg c42] at H
         exact absurd H (by simp)
       ·rw [if_neg c41] at H
        exact absurd H (by simp)
   ·rw [if_neg c5] at H
    exact absurd H (by simp)
  ·rw [if_neg c4] at H
   exact absurd H (by simp)
 ·rw [if_neg c3] at H
  have c3b0 : (t344 == 0) = false:=beq_eq_false_iff_ne.mpr c3
  have c3b1 : (t344 != 0) = true:=bne_iff_ne.mpr c3
  obtain rfl:=Option.some.inj H
  go_enter Tryd.func24,Tryd.ntmps24
  go_wp2_with (first | ((with_reducible refine gate_dst (N:=1) rfl ?_);refine box_event ?hg (N:=1) ?hd (cs:=#[.string a0_0,.slice A0_1 l0_1.length c0_1,.slice A0_2 l0_2.length c0_2,.slice A0_3 l0_3.length c0_3]) (t:=35) ?hr ?_;(case hd=>rfl);(case hg=>rfl);(case hr=>first | (go_simp;done) | (go_simp;rfl));intro gb343 hg w74 hbox hb;have n0_:=aM_ (bT_ (by exact bZ_ HB) hb);have n1_:=aM_ (hbox);have n2_:=aM_ ((by rw [hg];exact (bS_ (by exact bZ_ HB)) : w.heap.size ≤ gb343));have n3_:=aM_ ((by rw [hg];exact (bS_ (by exact bZ_ HB)) : w.heap.size ≤ gb343));clear HB;have HB:=n0_;have BK343:=n1_;have GW343:=n2_;have GE343:=n3_;clear n0_ n1_ n2_ n3_ hb hbox hg;have hcz75_0 : w74.cell? ⟨gb343,0,none⟩ = some (.string a0_0):=(kC_ BK343.out 0).trans rfl;have hcz75_1 : w74.cell? ⟨gb343,1,none⟩ = some (.slice A0_1 l0_1.length c0_1):=(kC_ BK343.out 1).trans rfl;have hcz75_2 : w74.cell? ⟨gb343,2,none⟩ = some (.slice A0_2 l0_2.length c0_2):=(kC_ BK343.out 2).trans rfl;have hcz75_3 : w74.cell? ⟨gb343,3,none⟩ = some (.slice A0_3 l0_3.length c0_3):=(kC_ BK343.out 3).trans rfl;have hfz75_0:=kF_ BK343.out 0;have hfz75_1:=kF_ BK343.out 1;have hfz75_2:=kF_ BK343.out 2;have hfz75_3:=kF_ BK343.out 3) | ((with_reducible refine gate_callee (f:=21) rfl ?_);refine goesL_ (some 10) rfl rfl Tryd.func21 (by kernel_rfl) rfl #[.agg #[.string a0_0,.slice A0_1 l0_1.length c0_1,.slice A0_2 l0_2.length c0_2,.slice A0_3 l0_3.length c0_3]] rfl (by (try simp only [mA_,mC_,mN_]);first | done | rfl | (simp only [lD_,lT_];rfl)) ?_;(with_reducible refine (impl_CheckDef.calls k a0_0 _ _ l0_1 _ _ l0_2 _ _ l0_3 t344 _ ?side1 ?side2 ?side3 ?side4 ?side5 ?side6 A2.out).mono ?_);(case side1=>exact cZ_ HR0_1 HB);(case side2=>exact HC0_1.out);(case side3=>exact cZ_ HR0_2 HB);(case side4=>exact HC0_2.out);(case side5=>exact cZ_ HR0_3 HB);(case side6=>exact HC0_3.out);rintro e w76 ⟨rfl,hb⟩;refine ⟨_,rfl,?_⟩;have n0_:=aM_ (blk_below (g:=gb343) (o:=.cells #[.string a0_0,.slice A0_1 l0_1.length c0_1,.slice A0_2 l0_2.length c0_2,.slice A0_3 l0_3.length c0_3] 35 (0,0)) (by exact kZ_ BK343) hb);have n1_:=aM_ (bT_ (by exact bZ_ HB) hb);clear BK343 HB;have BK343:=n0_;have HB:=n1_;clear n0_ n1_ hb))
  go_ret
  exact ⟨by first | rfl | (simp [errW_none,errW_some] <;> rfl) | (simp [*, errW_none,errW_some] <;> rfl),by exact bZ_ HB⟩
end Go.Proofs.YtipehkeabnfngaaDoor.PFnExactDefsText
