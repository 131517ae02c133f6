import Derived.Test.YtipehkeabnfngaaDoorZDTPFnExactDefTextx0
import Derived.Test.YtipehkeabnfngaaDoorZDTPFnExactDefTextx11
namespace Go.Proofs.YtipehkeabnfngaaDoor.PFnExactDefText
open Go.RowKit Go.Proofs.YtipehkeabnfngaaDoorW.PrintWords Go.Proofs.YtipehkeabnfngaaDoorW.PrintLast Go.Proofs.YtipehkeabnfngaaDoorW.PrintMore Go.Proofs.YtipehkeabnfngaaDoor.Xtra
attribute [local go_sem] max2_int min2_int max_two min_two max_three min_three max_four min_four str_leq str_gtr str_geq setCell_drewN cell_set2 cell_set3   -- for this text's walks alone
set_option linter.unusedVariables false
set_option linter.unusedSimpArgs false
mutual
def spec_DefText.l0 : Nat → ByteArray → Int → ByteArray → List (S82) → List (S85) → List (S69) → Option (ByteArray)
 | 0,_,_,_,_,_,_=>none
 | k + 1,x3,x4,x240000,x240001,x240002,x240003=>if x4 < (x240001.length : Int) then (if 0 ≤ x4 then (if x3.size + ((rd_T82 x240001 x4).f0).size ≤ 9223372036854775807 then (if (x3 ++ ((rd_T82 x240001 x4).f0)).size + 1 ≤ 9223372036854775807 then ((spec_l9Type.f ((rd_T82 x240001 x4).f1)).bind fun t243=>(if ((x3 ++ ((rd_T82 x240001 x4).f0)) ++ (⟨#[32]⟩ : ByteArray)).size + t243.size ≤ 9223372036854775807 then (if (rd_T82 x240001 x4).f2 = true then (if (((x3 ++ ((rd_T82 x240001 x4).f0)) ++ (⟨#[32]⟩ : ByteArray)) ++ t243).size + 5 ≤ 9223372036854775807 then (if ((((x3 ++ ((rd_T82 x240001 x4).f0)) ++ (⟨#[32]⟩ : ByteArray)) ++ t243) ++ (⟨#[32,110,117,108,108]⟩ : ByteArray)).size + 2 ≤ 9223372036854775807 then (spec_DefText.l0 k (((((x3 ++ ((rd_T82 x240001 x4).f0)) ++ (⟨#[32]⟩ : ByteArray)) ++ t243) ++ (⟨#[32,110,117,108,108]⟩ : ByteArray)) ++ (⟨#[59,32]⟩ : ByteArray)) (wrap64 (x4 + 1)) x240000 x240001 x240002 x240003) else (none)) else (none)) else (if (((x3 ++ ((rd_T82 x240001 x4).f0)) ++ (⟨#[32]⟩ : ByteArray)) ++ t243).size + 2 ≤ 9223372036854775807 then (spec_DefText.l0 k ((((x3 ++ ((rd_T82 x240001 x4).f0)) ++ (⟨#[32]⟩ : ByteArray)) ++ t243) ++ (⟨#[59,32]⟩ : ByteArray)) (wrap64 (x4 + 1)) x240000 x240001 x240002 x240003) else (none))) else (none))) else (none)) else (none)) else (none)) else (if x3.size + 8 ≤ 9223372036854775807 then ((spec_l9PartsText.f k x240000 x240001 x240002 x240003 x240002).bind fun t245=>(if (x3 ++ (⟨#[112,114,105,109,97,114,121,32]⟩ : ByteArray)).size + t245.size ≤ 9223372036854775807 then (spec_DefText.l1 k ((x3 ++ (⟨#[112,114,105,109,97,114,121,32]⟩ : ByteArray)) ++ t245) 0 x240000 x240001 x240002 x240003) else (none))) else (none))
def spec_DefText.l1 : Nat → ByteArray → Int → ByteArray → List (S82) → List (S85) → List (S69) → Option (ByteArray)
 | 0,_,_,_,_,_,_=>none
 | k + 1,x3,x5,x240000,x240001,x240002,x240003=>if x5 < (x240003.length : Int) then (if 0 ≤ x5 then (if (rd_T69 x240003 x5).f1 = true then (if x3.size + 7 ≤ 9223372036854775807 then (if (x3 ++ (⟨#[117,110,105,113,117,101,32]⟩ : ByteArray)).size + ((rd_T69 x240003 x5).f0).size ≤ 9223372036854775807 then (if ((x3 ++ (⟨#[117,110,105,113,117,101,32]⟩ : ByteArray)) ++ ((rd_T69 x240003 x5).f0)).size + 1 ≤ 9223372036854775807 then ((spec_l9PartsText.f k x240000 x240001 x240002 x240003 ((rd_T69 x240003 x5).f2)).bind fun t249=>(if (((x3 ++ (⟨#[117,110,105,113,117,101,32]⟩ : ByteArray)) ++ ((rd_T69 x240003 x5).f0)) ++ (⟨#[32]⟩ : ByteArray)).size + t249.size ≤ 9223372036854775807 then (spec_DefText.l1 k ((((x3 ++ (⟨#[117,110,105,113,117,101,32]⟩ : ByteArray)) ++ ((rd_T69 x240003 x5).f0)) ++ (⟨#[32]⟩ : ByteArray)) ++ t249) (wrap64 (x5 + 1)) x240000 x240001 x240002 x240003) else (none))) else (none)) else (none)) else (none)) else (if x3.size + 6 ≤ 9223372036854775807 then (if (x3 ++ (⟨#[105,110,100,101,120,32]⟩ : ByteArray)).size + ((rd_T69 x240003 x5).f0).size ≤ 9223372036854775807 then (if ((x3 ++ (⟨#[105,110,100,101,120,32]⟩ : ByteArray)) ++ ((rd_T69 x240003 x5).f0)).size + 1 ≤ 9223372036854775807 then ((spec_l9PartsText.f k x240000 x240001 x240002 x240003 ((rd_T69 x240003 x5).f2)).bind fun t252=>(if (((x3 ++ (⟨#[105,110,100,101,120,32]⟩ : ByteArray)) ++ ((rd_T69 x240003 x5).f0)) ++ (⟨#[32]⟩ : ByteArray)).size + t252.size ≤ 9223372036854775807 then (spec_DefText.l1 k ((((x3 ++ (⟨#[105,110,100,101,120,32]⟩ : ByteArray)) ++ ((rd_T69 x240003 x5).f0)) ++ (⟨#[32]⟩ : ByteArray)) ++ t252) (wrap64 (x5 + 1)) x240000 x240001 x240002 x240003) else (none))) else (none)) else (none)) else (none))) else (none)) else (if x3.size + 1 ≤ 9223372036854775807 then (some (x3 ++ (⟨#[125]⟩ : ByteArray))) else (none))
end
def spec_DefText.f (k : Nat) (a0_0 : ByteArray) (l0_1 : List (S82)) (l0_2 : List (S85)) (l0_3 : List (S69)) : Option (ByteArray):=(spec_CheckDef.f k a0_0 l0_1 l0_2 l0_3).bind fun t240=>(if t240 = 0 then (if 6 + a0_0.size ≤ 9223372036854775807 then (if ((⟨#[116,97,98,108,101,32]⟩ : ByteArray) ++ a0_0).size + 3 ≤ 9223372036854775807 then (spec_DefText.l0 k (((⟨#[116,97,98,108,101,32]⟩ : ByteArray) ++ a0_0) ++ (⟨#[32,123,32]⟩ : ByteArray)) 0 a0_0 l0_1 l0_2 l0_3) else (none)) else (none)) else (some (⟨#[]⟩ : ByteArray)))
theorem spec_DefText.mono_l : ∀ k,(∀ y0 y1 y2 y3 y4 y5,LeO (spec_DefText.l0 k y0 y1 y2 y3 y4 y5) (spec_DefText.l0 (k + 1) y0 y1 y2 y3 y4 y5)) ∧ (∀ y0 y1 y2 y3 y4 y5,LeO (spec_DefText.l1 k y0 y1 y2 y3 y4 y5) (spec_DefText.l1 (k + 1) y0 y1 y2 y3 y4 y5))
 | 0=>⟨fun _ _ _ _ _ _ r h=>by simp [spec_DefText.l0] at h,fun _ _ _ _ _ _ r h=>by simp [spec_DefText.l1] at h⟩
 | k + 1=>by
  obtain ⟨ih0,ih1⟩:=spec_DefText.mono_l k
  refine ⟨?_,?_⟩
  ·intro y0 y1 y2 y3 y4 y5
   unfold spec_DefText.l0
   repeat' first
   | (with_reducible exact ih0 _ _ _ _ _ _)
   | (with_reducible exact ih1 _ _ _ _ _ _)
   | (with_reducible exact spec_CheckDef.mono _ _ _ _ _)
   | (with_reducible exact spec_l9PartsText.mono _ _ _ _ _ _)
   | (with_reducible exact LeO.refl _)
   | (with_reducible exact LeO.none _)
   | (with_reducible refine LeO.ite ?_ ?_)
   | (with_reducible refine LeO.bind ?_ (fun _=>?_))
   | exact ih0 _ _ _ _ _ _
   | exact ih1 _ _ _ _ _ _
   | exact spec_CheckDef.mono _ _ _ _ _
   | exact spec_l9PartsText.mono _ _ _ _ _ _
   | exact LeO.none _
   | refine LeO.ite ?_ ?_
   | refine LeO.bind ?_ (fun _=>?_)
  ·intro y0 y1 y2 y3 y4 y5
   unfold spec_DefText.l1
   repeat' first
   | (with_reducible exact ih0 _ _ _ _ _ _)
   | (with_reducible exact ih1 _ _ _ _ _ _)
   | (with_reducible exact spec_CheckDef.mono _ _ _ _ _)
   | (with_reducible exact spec_l9PartsText.mono _ _ _ _ _ _)
   | (with_reducible exact LeO.refl _)
   | (with_reducible exact LeO.none _)
   | (with_reducible refine LeO.ite ?_ ?_)
   | (with_reducible refine LeO.bind ?_ (fun _=>?_))
   | exact ih0 _ _ _ _ _ _
   | exact ih1 _ _ _ _ _ _
   | exact spec_CheckDef.mono _ _ _ _ _
   | exact spec_l9PartsText.mono _ _ _ _ _ _
   | exact LeO.none _
   | refine LeO.ite ?_ ?_
   | refine LeO.bind ?_ (fun _=>?_)
theorem spec_DefText.mono : ∀ a0 a1 a2 a3 k,LeO (spec_DefText.f k a0 a1 a2 a3) (spec_DefText.f (k + 1) a0 a1 a2 a3):=by
 intro a0 a1 a2 a3 k
 obtain ⟨ih0,ih1⟩:=spec_DefText.mono_l k
 unfold spec_DefText.f
 repeat' first
   | (with_reducible exact ih0 _ _ _ _ _ _)
   | (with_reducible exact ih1 _ _ _ _ _ _)
   | (with_reducible exact spec_CheckDef.mono _ _ _ _ _)
   | (with_reducible exact spec_l9PartsText.mono _ _ _ _ _ _)
   | (with_reducible exact LeO.refl _)
   | (with_reducible exact LeO.none _)
   | (with_reducible refine LeO.ite ?_ ?_)
   | (with_reducible refine LeO.bind ?_ (fun _=>?_))
   | exact ih0 _ _ _ _ _ _
   | exact ih1 _ _ _ _ _ _
   | exact spec_CheckDef.mono _ _ _ _ _
   | exact spec_l9PartsText.mono _ _ _ _ _ _
   | exact LeO.none _
   | refine LeO.ite ?_ ?_
   | refine LeO.bind ?_ (fun _=>?_)
def spec_DefText.T7 : Bool × List (List Nat × List Nat):=(true,[([],[]),([],[]),([1],[1]),([],[]),([2,3],[2,3]),([4],[4]),([5],[5]),([0,6],[0,6]),([7],[7]),([],[]),([9],[9]),([],[]),([10,11],[10,11]),([12],[12]),([13],[13]),([14],[14]),([8,15],[8,15]),([16,15,0,1,2,3,4,5,6,7,8,9,10,11,12,13,14,15,16],[0,16])])
def spec_DefText.B7 : List Nat:=[0,0,2,0,14,30,62,127,255,0,512,0,3584,7680,15872,32256,65535,131071]
theorem spec_DefText.tab7 : rtab .any (opsOf Tryd.f25 7) = spec_DefText.T7:=by kernel_rfl
theorem spec_DefText.bits7 : waitsOk spec_DefText.T7.2 spec_DefText.B7 = true:=by kernel_rfl
def spec_DefText.T18 : Bool × List (List Nat × List Nat):=(true,[([],[]),([],[]),([0,1],[0,1]),([],[]),([3],[3]),([],[]),([4,5],[4,5]),([6],[6]),([7],[7]),([2,8],[2,8]),([9],[9]),([],[]),([],[]),([12],[12]),([],[]),([13,14],[13,14]),([15],[15]),([16],[16]),([11,17],[11,17]),([10,18],[10,18]),([19,18,0,1,2,3,4,5,6,7,8,9,10,11,12,13,14,15,16,17,18,19],[0,19])])
def spec_DefText.B18 : List Nat:=[0,0,3,0,8,0,56,120,248,511,1023,0,0,4096,0,28672,61440,126976,260096,524287,1048575]
theorem spec_DefText.tab18 : rtab .any (opsOf Tryd.f25 18) = spec_DefText.T18:=by kernel_rfl
theorem spec_DefText.bits18 : waitsOk spec_DefText.T18.2 spec_DefText.B18 = true:=by kernel_rfl
set_option maxHeartbeats 8000000 in
set_option maxRecDepth 100000 in
theorem spec_DefText.calls (k : Nat) (a0_0 : ByteArray) (A0_1 : Option Addr) (c0_1 : Nat) (l0_1 : List (S82)) (A0_2 : Option Addr) (c0_2 : Nat) (l0_2 : List (S85)) (A0_3 : Option Addr) (c0_3 : Nat) (l0_3 : List (S69)) (r : ByteArray) (w : World) (hr0_1 : Kd.C k82 w A0_1 l0_1.length l0_1) (hc0_1 : l0_1.length ≤ c0_1) (hr0_2 : Kd.C k85 w A0_2 l0_2.length l0_2) (hc0_2 : l0_2.length ≤ c0_2) (hr0_3 : Kd.C k69 w A0_3 l0_3.length l0_3) (hc0_3 : l0_3.length ≤ c0_3) (h : spec_DefText.f k a0_0 l0_1 l0_2 l0_3 = some r) :
  Calls Tryd.prog 25 #[.agg #[.string a0_0,.slice A0_1 l0_1.length c0_1,.slice A0_2 l0_2.length c0_2,.slice A0_3 l0_3.length c0_3]] w fun e w'=>e = .returned (.string r) ∧ Below w.heap.size w w':=by
 have hu35:=Tryd.underlying35
 have HR0_1:=aM_ hr0_1
 have HC0_1:=aM_ hc0_1
 clear hr0_1 hc0_1
 have HR0_2:=aM_ hr0_2
 have HC0_2:=aM_ hc0_2
 clear hr0_2 hc0_2
 have HR0_3:=aM_ hr0_3
 have HC0_3:=aM_ hc0_3
 clear hr0_3 hc0_3
 have HB:=aM_ (Below.refl w.heap.size w)
 have H : ((spec_CheckDef.f k a0_0 l0_1 l0_2 l0_3).bind fun t240=>(if t240 = 0 then (if 6 + a0_0.size ≤ 9223372036854775807 then (if ((⟨#[116,97,98,108,101,32]⟩ : ByteArray) ++ a0_0).size + 3 ≤ 9223372036854775807 then (spec_DefText.l0 k (((⟨#[116,97,98,108,101,32]⟩ : ByteArray) ++ a0_0) ++ (⟨#[32,123,32]⟩ : ByteArray)) 0 a0_0 l0_1 l0_2 l0_3) else (none)) else (none)) else (some (⟨#[]⟩ : ByteArray)))) = some r:=h
 clear h
 replace H:=oB_ H
 obtain ⟨t240,A20,H⟩:=H
 replace H : (if t240 = 0 then (if 6 + a0_0.size ≤ 9223372036854775807 then (if ((⟨#[116,97,98,108,101,32]⟩ : ByteArray) ++ a0_0).size + 3 ≤ 9223372036854775807 then (spec_DefText.l0 k (((⟨#[116,97,98,108,101,32]⟩ : ByteArray) ++ a0_0) ++ (⟨#[32,123,32]⟩ : ByteArray)) 0 a0_0 l0_1 l0_2 l0_3) else (none)) else (none)) else (some (⟨#[]⟩ : ByteArray))) = some r:=H
 have A2:=aM_ A20
 clear A20
 by_cases c3 : t240 = 0
 ·rw [if_pos c3] at H
  have c3b0 : (t240 == 0) = true:=beq_iff_eq.mpr c3
  have c3b1 : (t240 != 0) = false:=bne_eq_false_iff_eq.mpr c3
  clear c3
  by_cases c4 : 6 + a0_0.size ≤ 9223372036854775807
  ·rw [if_pos c4] at H
   have c4b0:=eq_true c4
   have c4b1 : decide (6 + a0_0.size ≤ 9223372036854775807) = true:=decide_eq_true c4
   try have c4b2 : (9223372036854775807 < 6 + a0_0.size) = False:=eq_false (Nat.not_lt.2 c4)
   by_cases c5 : ((⟨#[116,97,98,108,101,32]⟩ : ByteArray) ++ a0_0).size + 3 ≤ 9223372036854775807
   ·rw [if_pos c5] at H
    have c5b0:=eq_true c5
    have c5b1 : decide (((⟨#[116,97,98,108,101,32]⟩ : ByteArray) ++ a0_0).size + 3 ≤ 9223372036854775807) = true:=decide_eq_true c5
    try have c5b2 : (9223372036854775807 < ((⟨#[116,97,98,108,101,32]⟩ : ByteArray) ++ a0_0).size + 3) = False:=eq_false (Nat.not_lt.2 c5)
    have c5b3:=eq_false (Nat.not_lt.2 c5);(repeat rw [ByteArray.size_append] at c5b3);(try rw [show (⟨#[116,97,98,108,101,32]⟩ : ByteArray).size = 6 from rfl] at c5b3)
    have H':=aM_ H
    clear H
    go_enter Tryd.func25,Tryd.ntmps25
    go_wp2_with (first | ((with_reducible refine gate_dst (N:=1) rfl ?_);refine box_event ?hg (N:=1) ?hd (cs:=#[.string a0_0,.slice A0_1 l0_1.length c0_1,.slice A0_2 l0_2.length c0_2,.slice A0_3 l0_3.length c0_3]) (t:=35) ?hr ?_;(case hd=>rfl);(case hg=>rfl);(case hr=>first | (go_simp;done) | (go_simp;rfl));intro gb239 hg w6 hbox hb;have n0_:=aM_ (bT_ (by exact bZ_ HB) hb);have n1_:=aM_ (hbox);have n2_:=aM_ ((by rw [hg];exact (bS_ (by exact bZ_ HB)) : w.heap.size ≤ gb239));have n3_:=aM_ ((by rw [hg];exact (bS_ (by exact bZ_ HB)) : w.heap.size ≤ gb239));clear HB;have HB:=n0_;have BK239:=n1_;have GW239:=n2_;have GE239:=n3_;clear n0_ n1_ n2_ n3_;clear hb hbox hg;have hcz7_0 : w6.cell? ⟨gb239,0,none⟩ = some (.string a0_0):=(kC_ BK239.out 0).trans rfl;have hcz7_1 : w6.cell? ⟨gb239,1,none⟩ = some (.slice A0_1 l0_1.length c0_1):=(kC_ BK239.out 1).trans rfl;have hcz7_2 : w6.cell? ⟨gb239,2,none⟩ = some (.slice A0_2 l0_2.length c0_2):=(kC_ BK239.out 2).trans rfl;have hcz7_3 : w6.cell? ⟨gb239,3,none⟩ = some (.slice A0_3 l0_3.length c0_3):=(kC_ BK239.out 3).trans rfl;have hfz7_0:=kF_ BK239.out 0;have hfz7_1:=kF_ BK239.out 1;have hfz7_2:=kF_ BK239.out 2;have hfz7_3:=kF_ BK239.out 3) | ((with_reducible refine gate_callee (f:=23) rfl ?_);refine goesL_ (some 8) rfl rfl Tryd.func23 (by kernel_rfl) rfl #[.agg #[.string a0_0,.slice A0_1 l0_1.length c0_1,.slice A0_2 l0_2.length c0_2,.slice A0_3 l0_3.length c0_3]] rfl (by (try simp only [mA_,mC_,mN_]);first | done | rfl | (simp only [lD_,lT_];rfl)) ?_;(with_reducible refine (spec_CheckDef.calls k a0_0 _ _ l0_1 _ _ l0_2 _ _ l0_3 t240 _ ?side1 ?side2 ?side3 ?side4 ?side5 ?side6 A2.out).mono ?_);(case side1=>repeat (first | exact (Kd.C_below HR0_1.out HB.out) | (with_reducible refine cA_ ?_ _) | (with_reducible refine cN_ ?_ _) | (with_reducible refine cD_ ?_)));(case side2=>exact HC0_1.out);(case side3=>repeat (first | exact (Kd.C_below HR0_2.out HB.out) | (with_reducible refine cA_ ?_ _) | (with_reducible refine cN_ ?_ _) | (with_reducible refine cD_ ?_)));(case side4=>exact HC0_2.out);(case side5=>repeat (first | exact (Kd.C_below HR0_3.out HB.out) | (with_reducible refine cA_ ?_ _) | (with_reducible refine cN_ ?_ _) | (with_reducible refine cD_ ?_)));(case side6=>exact HC0_3.out);rintro e w8 ⟨rfl,hb⟩;refine ⟨_,rfl,?_⟩;have n0_:=aM_ (blk_below (g:=gb239) (o:=.cells #[.string a0_0,.slice A0_1 l0_1.length c0_1,.slice A0_2 l0_2.length c0_2,.slice A0_3 l0_3.length c0_3] 35 (0,0)) (by exact kZ_ BK239) hb);have n1_:=aM_ (bT_ (by exact bZ_ HB) hb);clear BK239;clear HB;have BK239:=n0_;have HB:=n1_;clear n0_ n1_;(try clear hb);(try clear hb2);(try clear hk);(try clear hi);have hcz9_0 : w8.cell? ⟨gb239,0,none⟩ = some (.string a0_0):=(kC_ BK239.out 0).trans rfl;have hcz9_1 : w8.cell? ⟨gb239,1,none⟩ = some (.slice A0_1 l0_1.length c0_1):=(kC_ BK239.out 1).trans rfl;have hcz9_2 : w8.cell? ⟨gb239,2,none⟩ = some (.slice A0_2 l0_2.length c0_2):=(kC_ BK239.out 2).trans rfl;have hcz9_3 : w8.cell? ⟨gb239,3,none⟩ = some (.slice A0_3 l0_3.length c0_3):=(kC_ BK239.out 3).trans rfl;have hfz9_0:=kF_ BK239.out 0;have hfz9_1:=kF_ BK239.out 1;have hfz9_2:=kF_ BK239.out 2;have hfz9_3:=kF_ BK239.out 3))
    (try simp only [Act.put,sI_,sS_,sZ_])
    go_loopg [3,4] k (fun kq v3 v4 w'=>∃ (x3_1 : ByteArray) (x4_1 : Int),v3 = .string x3_1 ∧ v4 = .int .i64 x4_1 ∧ Aside0 (spec_DefText.l0 kq x3_1 x4_1 a0_0 l0_1 l0_2 l0_3 = some r) ∧ Aside0 (kq ≤ k) ∧ Aside0 (w'.heap[gb239]? = some (.cells #[.string a0_0,(.slice A0_1 l0_1.length c0_1),(.slice A0_2 l0_2.length c0_2),(.slice A0_3 l0_3.length c0_3)] 35 (0,0))) ∧ Aside0 (Below w.heap.size w w'))
    case atStart=>exact ⟨(((⟨#[116,97,98,108,101,32]⟩ : ByteArray) ++ a0_0) ++ (⟨#[32,123,32]⟩ : ByteArray)),(0),(by first | rfl | (simp;done) | (simp [*];done)),(by first | rfl | (simp;done) | (simp [*];done)),H', ⟨Nat.le_refl _⟩,⟨by exact kZ_ BK239⟩,⟨by exact bZ_ HB⟩⟩
    case round =>
     clear H'
     try clear c2
     try clear p2
     try clear c3
     try clear c3b0
     try clear c3b1
     try clear c4
     try clear c4b0
     try clear c4b1
     try clear c4b2
     try clear c5
     try clear c5b0
     try clear c5b1
     try clear c5b2
     try clear hcz7_0
     try clear hcz7_1
     try clear hcz7_2
     try clear hcz7_3
     try clear hcz9_0
     try clear hcz9_1
     try clear hcz9_2
     try clear hcz9_3
     try clear hfz7_0
     try clear hfz7_1
     try clear hfz7_2
     try clear hfz7_3
     try clear hfz9_0
     try clear hfz9_1
     try clear hfz9_2
     try clear hfz9_3
     obtain ⟨x3_1,x4_1,rfl,rfl,HA,HK1,BK239,HB⟩:=hrel
     cases gk with
     | zero=>exact absurd HA.out (by simp [spec_DefText.l0])
     | succ k1 =>
      have H:=HA.out
      clear HA
      simp only [spec_DefText.l0] at H
      by_cases c10 : x4_1 < (l0_1.length : Int)
      ·rw [if_pos c10] at H
       have c10b0 : decide (x4_1 < (l0_1.length : Int)) = true:=decide_eq_true c10
       clear c10
       by_cases c11 : 0 ≤ x4_1
       ·rw [if_pos c11] at H
        have c11b0 : decide (0 ≤ x4_1) = true:=decide_eq_true c11
        clear c11
        by_cases c12 : x3_1.size + ((rd_T82 l0_1 x4_1).f0).size ≤ 9223372036854775807
        ·rw [if_pos c12] at H
         have c12b0:=eq_true c12
         have c12b1 : decide (x3_1.size + ((rd_T82 l0_1 x4_1).f0).size ≤ 9223372036854775807) = true:=decide_eq_true c12
         try have c12b2 : (9223372036854775807 < x3_1.size + ((rd_T82 l0_1 x4_1).f0).size) = False:=eq_false (Nat.not_lt.2 c12)
         by_cases c13 : (x3_1 ++ ((rd_T82 l0_1 x4_1).f0)).size + 1 ≤ 9223372036854775807
         ·rw [if_pos c13] at H
          have c13b0:=eq_true c13
          have c13b1 : decide ((x3_1 ++ ((rd_T82 l0_1 x4_1).f0)).size + 1 ≤ 9223372036854775807) = true:=decide_eq_true c13
          try have c13b2 : (9223372036854775807 < (x3_1 ++ ((rd_T82 l0_1 x4_1).f0)).size + 1) = False:=eq_false (Nat.not_lt.2 c13)
          have c13b3:=eq_false (Nat.not_lt.2 c13);(repeat rw [ByteArray.size_append] at c13b3)
          replace H:=oB_ H
          obtain ⟨t243,A140,H⟩:=H
          replace H : (if ((x3_1 ++ ((rd_T82 l0_1 x4_1).f0)) ++ (⟨#[32]⟩ : ByteArray)).size + t243.size ≤ 9223372036854775807 then (if (rd_T82 l0_1 x4_1).f2 = true then (if (((x3_1 ++ ((rd_T82 l0_1 x4_1).f0)) ++ (⟨#[32]⟩ : ByteArray)) ++ t243).size + 5 ≤ 9223372036854775807 then (if ((((x3_1 ++ ((rd_T82 l0_1 x4_1).f0)) ++ (⟨#[32]⟩ : ByteArray)) ++ t243) ++ (⟨#[32,110,117,108,108]⟩ : ByteArray)).size + 2 ≤ 9223372036854775807 then (spec_DefText.l0 k1 (((((x3_1 ++ ((rd_T82 l0_1 x4_1).f0)) ++ (⟨#[32]⟩ : ByteArray)) ++ t243) ++ (⟨#[32,110,117,108,108]⟩ : ByteArray)) ++ (⟨#[59,32]⟩ : ByteArray)) (wrap64 (x4_1 + 1)) a0_0 l0_1 l0_2 l0_3) else (none)) else (none)) else (if (((x3_1 ++ ((rd_T82 l0_1 x4_1).f0)) ++ (⟨#[32]⟩ : ByteArray)) ++ t243).size + 2 ≤ 9223372036854775807 then (spec_DefText.l0 k1 ((((x3_1 ++ ((rd_T82 l0_1 x4_1).f0)) ++ (⟨#[32]⟩ : ByteArray)) ++ t243) ++ (⟨#[59,32]⟩ : ByteArray)) (wrap64 (x4_1 + 1)) a0_0 l0_1 l0_2 l0_3) else (none))) else (none)) = some r:=H
          have A14:=aM_ A140
          clear A140
          by_cases c15 : ((x3_1 ++ ((rd_T82 l0_1 x4_1).f0)) ++ (⟨#[32]⟩ : ByteArray)).size + t243.size ≤ 9223372036854775807
          ·rw [if_pos c15] at H
           have c15b0:=eq_true c15
           have c15b1 : decide (((x3_1 ++ ((rd_T82 l0_1 x4_1).f0)) ++ (⟨#[32]⟩ : ByteArray)).size + t243.size ≤ 9223372036854775807) = true:=decide_eq_true c15
           try have c15b2 : (9223372036854775807 < ((x3_1 ++ ((rd_T82 l0_1 x4_1).f0)) ++ (⟨#[32]⟩ : ByteArray)).size + t243.size) = False:=eq_false (Nat.not_lt.2 c15)
           have c15b3:=eq_false (Nat.not_lt.2 c15);(repeat rw [ByteArray.size_append] at c15b3);(try rw [show (⟨#[32]⟩ : ByteArray).size = 1 from rfl] at c15b3)
           obtain ⟨bq16,hbq16⟩ : ∃ b_ : Bool,b_ = ((rd_T82 l0_1 x4_1).f2):=⟨_,rfl⟩
           replace H : (if bq16 = true then (if (((x3_1 ++ ((rd_T82 l0_1 x4_1).f0)) ++ (⟨#[32]⟩ : ByteArray)) ++ t243).size + 5 ≤ 9223372036854775807 then (if ((((x3_1 ++ ((rd_T82 l0_1 x4_1).f0)) ++ (⟨#[32]⟩ : ByteArray)) ++ t243) ++ (⟨#[32,110,117,108,108]⟩ : ByteArray)).size + 2 ≤ 9223372036854775807 then (spec_DefText.l0 k1 (((((x3_1 ++ ((rd_T82 l0_1 x4_1).f0)) ++ (⟨#[32]⟩ : ByteArray)) ++ t243) ++ (⟨#[32,110,117,108,108]⟩ : ByteArray)) ++ (⟨#[59,32]⟩ : ByteArray)) (wrap64 (x4_1 + 1)) a0_0 l0_1 l0_2 l0_3) else (none)) else (none)) else (if (((x3_1 ++ ((rd_T82 l0_1 x4_1).f0)) ++ (⟨#[32]⟩ : ByteArray)) ++ t243).size + 2 ≤ 9223372036854775807 then (spec_DefText.l0 k1 ((((x3_1 ++ ((rd_T82 l0_1 x4_1).f0)) ++ (⟨#[32]⟩ : ByteArray)) ++ t243) ++ (⟨#[59,32]⟩ : ByteArray)) (wrap64 (x4_1 + 1)) a0_0 l0_1 l0_2 l0_3) else (none))) = some r:=by rw [← hbq16] at H;exact H
           have Nbq16:=aM_ hbq16
           clear hbq16
           by_cases c17 : bq16 = true
           ·subst c17
            have H1 : (if (((x3_1 ++ ((rd_T82 l0_1 x4_1).f0)) ++ (⟨#[32]⟩ : ByteArray)) ++ t243).size + 5 ≤ 9223372036854775807 then (if ((((x3_1 ++ ((rd_T82 l0_1 x4_1).f0)) ++ (⟨#[32]⟩ : ByteArray)) ++ t243) ++ (⟨#[32,110,117,108,108]⟩ : ByteArray)).size + 2 ≤ 9223372036854775807 then (spec_DefText.l0 k1 (((((x3_1 ++ ((rd_T82 l0_1 x4_1).f0)) ++ (⟨#[32]⟩ : ByteArray)) ++ t243) ++ (⟨#[32,110,117,108,108]⟩ : ByteArray)) ++ (⟨#[59,32]⟩ : ByteArray)) (wrap64 (x4_1 + 1)) a0_0 l0_1 l0_2 l0_3) else (none)) else (none)) = some r:=by rw [if_pos rfl] at H;exact H
            clear H
            have H:=H1
            clear H1
            by_cases c18 : (((x3_1 ++ ((rd_T82 l0_1 x4_1).f0)) ++ (⟨#[32]⟩ : ByteArray)) ++ t243).size + 5 ≤ 9223372036854775807
            ·rw [if_pos c18] at H
             have c18b0:=eq_true c18
             have c18b1 : decide ((((x3_1 ++ ((rd_T82 l0_1 x4_1).f0)) ++ (⟨#[32]⟩ : ByteArray)) ++ t243).size + 5 ≤ 9223372036854775807) = true:=decide_eq_true c18
             try have c18b2 : (9223372036854775807 < (((x3_1 ++ ((rd_T82 l0_1 x4_1).f0)) ++ (⟨#[32]⟩ : ByteArray)) ++ t243).size + 5) = False:=eq_false (Nat.not_lt.2 c18)
             have c18b3:=eq_false (Nat.not_lt.2 c18);(repeat rw [ByteArray.size_append] at c18b3);(try rw [show (⟨#[32]⟩ : ByteArray).size = 1 from rfl] at c18b3)
             by_cases c19 : ((((x3_1 ++ ((rd_T82 l0_1 x4_1).f0)) ++ (⟨#[32]⟩ : ByteArray)) ++ t243) ++ (⟨#[32,110,117,108,108]⟩ : ByteArray)).size + 2 ≤ 9223372036854775807
             ·rw [if_pos c19] at H
              have c19b0:=eq_true c19
              have c19b1 : decide (((((x3_1 ++ ((rd_T82 l0_1 x4_1).f0)) ++ (⟨#[32]⟩ : ByteArray)) ++ t243) ++ (⟨#[32,110,117,108,108]⟩ : ByteArray)).size + 2 ≤ 9223372036854775807) = true:=decide_eq_true c19
              try have c19b2 : (9223372036854775807 < ((((x3_1 ++ ((rd_T82 l0_1 x4_1).f0)) ++ (⟨#[32]⟩ : ByteArray)) ++ t243) ++ (⟨#[32,110,117,108,108]⟩ : ByteArray)).size + 2) = False:=eq_false (Nat.not_lt.2 c19)
              have c19b3:=eq_false (Nat.not_lt.2 c19);(repeat rw [ByteArray.size_append] at c19b3);(try rw [show (⟨#[32,110,117,108,108]⟩ : ByteArray).size = 5 from rfl] at c19b3);(try rw [show (⟨#[32]⟩ : ByteArray).size = 1 from rfl] at c19b3)
              have H':=aM_ H
              clear H
              have hcz20_0 : wr.cell? ⟨gb239,0,none⟩ = some (.string a0_0):=(kC_ BK239.out 0).trans rfl
              have hcz20_1 : wr.cell? ⟨gb239,1,none⟩ = some (.slice A0_1 l0_1.length c0_1):=(kC_ BK239.out 1).trans rfl
              have hcz20_2 : wr.cell? ⟨gb239,2,none⟩ = some (.slice A0_2 l0_2.length c0_2):=(kC_ BK239.out 2).trans rfl
              have hcz20_3 : wr.cell? ⟨gb239,3,none⟩ = some (.slice A0_3 l0_3.length c0_3):=(kC_ BK239.out 3).trans rfl
              have hfz20_0:=kF_ BK239.out 0
              have hfz20_1:=kF_ BK239.out 1
              have hfz20_2:=kF_ BK239.out 2
              have hfz20_3:=kF_ BK239.out 3
              try go_wp2
              have n0_:=aM_ (kD_ BK239.out)
              have n1_:=aM_ (bD_ HB.out)
              clear BK239
              clear HB
              have BK239:=n0_
              have HB:=n1_
              clear n0_ n1_
              have p241 : 0 ≤ (x4_1 : Int):=oT_ (by first | (with_reducible assumption) | assumption)
              have q241 : x4_1 < (l0_1.length : Int):=oT_ (by first | (with_reducible assumption) | assumption)
              obtain ⟨ad241,e241,hx241_0,hx241_1,hx241_2⟩:=at_T82 HR0_1.out x4_1 p241 q241
              have hw241_2:=hx241_2
              have hw241_1:=hx241_1
              have hw241_0:=hx241_0
              (try rw [← Nbq16.out] at hx241_2)
              (try rw [← Nbq16.out] at hw241_2)
              cases e241
              replace hx241_0:=(HB.out.cell (wL_ w _ hx241_0)).trans hx241_0
              replace hx241_1:=(HB.out.cell (wL_ w _ hx241_1)).trans hx241_1
              replace hx241_2:=(HB.out.cell (wL_ w _ hx241_2)).trans hx241_2
              replace p241:=eq_true p241
              replace q241:=eq_true q241
              have p242 : 0 ≤ (x4_1 : Int):=oT_ (by first | (with_reducible assumption) | assumption)
              have q242 : x4_1 < (l0_1.length : Int):=oT_ (by first | (with_reducible assumption) | assumption)
              obtain ⟨ad242,e242,hx242_0,hx242_1,hx242_2⟩:=at_T82 HR0_1.out x4_1 p242 q242
              have hw242_2:=hx242_2
              have hw242_1:=hx242_1
              have hw242_0:=hx242_0
              (try rw [← Nbq16.out] at hx242_2)
              (try rw [← Nbq16.out] at hw242_2)
              obtain rfl : ad241 = ad242:=(by injection e242)
              replace hx242_0:=(HB.out.cell (wL_ w _ hx242_0)).trans hx242_0
              replace hx242_1:=(HB.out.cell (wL_ w _ hx242_1)).trans hx242_1
              replace hx242_2:=(HB.out.cell (wL_ w _ hx242_2)).trans hx242_2
              replace p242:=eq_true p242
              replace q242:=eq_true q242
              refine start_ (n:=18) (S:=fun w'=>w'.cell? ⟨gb239,0,none⟩ = some (.string a0_0) ∧ w'.cell? ⟨gb239,1,none⟩ = some (.slice (some ad241) l0_1.length c0_1) ∧ w'.cell? ⟨gb239,2,none⟩ = some (.slice A0_2 l0_2.length c0_2) ∧ w'.cell? ⟨gb239,3,none⟩ = some (.slice A0_3 l0_3.length c0_3) ∧ w'.cell? (ad241.add ((x4_1).toNat * 3)) = some (.string ((rd_T82 l0_1 x4_1).f0)) ∧ w'.cell? ⟨(ad241.add ((x4_1).toNat * 3)).block,(ad241.add ((x4_1).toNat * 3)).off + 1,none⟩ = some (.int .i64 ((rd_T82 l0_1 x4_1).f1)) ∧ w'.cell? ⟨(ad241.add ((x4_1).toNat * 3)).block,(ad241.add ((x4_1).toNat * 3)).off + 2,none⟩ = some (.bool true) ∧ w'.cell? (ad241.add ((x4_1).toNat * 3)) = some (.string ((rd_T82 l0_1 x4_1).f0)) ∧ w'.cell? ⟨(ad241.add ((x4_1).toNat * 3)).block,(ad241.add ((x4_1).toNat * 3)).off + 1,none⟩ = some (.int .i64 ((rd_T82 l0_1 x4_1).f1)) ∧ w'.cell? ⟨(ad241.add ((x4_1).toNat * 3)).block,(ad241.add ((x4_1).toNat * 3)).off + 2,none⟩ = some (.bool true)) (ds:=[]) (tb_ 0 18) (by kernel_rfl) rfl rfl ⟨(kC_ BK239.out 0).trans rfl,(kC_ BK239.out 1).trans rfl,(kC_ BK239.out 2).trans rfl,(kC_ BK239.out 3).trans rfl,((HB.out.cell (wL_ w _ hw241_0)).trans hw241_0),((HB.out.cell (wL_ w _ hw241_1)).trans hw241_1),((HB.out.cell (wL_ w _ hw241_2)).trans hw241_2),((HB.out.cell (wL_ w _ hw242_0)).trans hw242_0),((HB.out.cell (wL_ w _ hw242_1)).trans hw242_1),((HB.out.cell (wL_ w _ hw242_2)).trans hw242_2)⟩ (fun hHeld=>?_);refine with_tabW spec_DefText.tab7 spec_DefText.bits7 (fun HT_ HW_=>?_)
              generalize wr.drew = w21 at BK239 HB hx241_0 hx241_1 hx241_2 hx242_0 hx242_1 hx242_2 hHeld ⊢
              refine pure_ (i:=0) (N:=some 21) (v:=?_) (a':=?_) (tb_ 1 17) rfl rfl (any_of HT_.out (by kernel_rfl)) (fun _ _ _ h=>h) (Or.inl ⟨by rfl,?_⟩) ?_ ?_
              rotate_left
              ·intro w'
               go_simp
               with_reducible rfl
              rotate_left
              ·simp only [Act.put,sI_,sZ_,sS_,i64_w,i32_w]
               rfl
              refine pure_ (i:=1) (N:=some 22) (v:=?_) (a':=?_) (tb_ 2 16) rfl rfl (any_of HT_.out (by kernel_rfl)) (fun _ _ _ h=>h) (Or.inl ⟨by rfl,?_⟩) ?_ ?_
              rotate_left
              ·intro w'
               go_simp
               with_reducible rfl
              rotate_left
              ·simp only [Act.put,sI_,sZ_,sS_,i64_w,i32_w]
               rfl
              refine pure_ (i:=3) (N:=some 24) (v:=?_) (a':=?_) #[true,true,false,true,false,false,false,false,false,false,false,false,false,false,false,false,false,false] rfl rfl (any_of HT_.out (by kernel_rfl)) (fun _ _ _ h=>h) (Or.inl ⟨by rfl,?_⟩) ?_ ?_
              rotate_left
              ·intro w'
               go_simp
               with_reducible rfl
              rotate_left
              ·simp only [Act.put,sI_,sZ_,sS_,i64_w,i32_w]
               rfl
              refine pure_ (i:=9) (N:=some 30) (v:=?_) (a':=?_) #[true,true,false,true,false,false,false,false,false,true,false,false,false,false,false,false,false,false] rfl rfl (any_of HT_.out (by kernel_rfl)) (fun _ _ _ h=>h) (Or.inl ⟨by rfl,?_⟩) ?_ ?_
              rotate_left
              ·intro w'
               go_simp
               with_reducible rfl
              rotate_left
              ·simp only [Act.put,sI_,sZ_,sS_,i64_w,i32_w]
               rfl
              refine pure_ (i:=11) (N:=some 32) (v:=?_) (a':=?_) #[true,true,false,true,false,false,false,false,false,true,false,true,false,false,false,false,false,false] rfl rfl (any_of HT_.out (by kernel_rfl)) (fun _ _ _ h=>h) (Or.inl ⟨by rfl,?_⟩) ?_ ?_
              rotate_left
              ·intro w'
               go_simp
               with_reducible rfl
              rotate_left
              ·simp only [Act.put,sI_,sZ_,sS_,i64_w,i32_w]
               rfl
              refine take_ (i:=2) (N:=some 23) (v:=?_) (a':=?_) #[true,true,true,true,false,false,false,false,false,true,false,true,false,false,false,false,false,false] rfl rfl (take_ofW HT_.out HW_.out (by kernel_rfl)) (fun _ _ _ h=>h) (Or.inl ⟨by rfl,?_⟩) hHeld ?_ ?_
              rotate_left
              ·rintro w' ⟨s0,s1,s2,s3,s4,s5,s6,s7,s8,s9⟩
               go_simp
               with_reducible rfl
              rotate_left
              ·simp only [Act.put,sI_,sZ_,sS_,i64_w,i32_w]
               rfl
              refine pure_ (i:=4) (N:=some 25) (v:=?_) (a':=?_) #[true,true,true,true,true,false,false,false,false,true,false,true,false,false,false,false,false,false] rfl rfl (any_of HT_.out (by kernel_rfl)) (fun _ _ _ h=>h) (Or.inl ⟨by rfl,?_⟩) ?_ ?_
              rotate_left
              ·intro w'
               go_simp
               with_reducible rfl
              rotate_left
              ·simp only [Act.put,sI_,sZ_,sS_,i64_w,i32_w]
               rfl
              refine pure_ (i:=5) (N:=some 26) (v:=?_) (a':=?_) #[true,true,true,true,true,true,false,false,false,true,false,true,false,false,false,false,false,false] rfl rfl (any_of HT_.out (by kernel_rfl)) (fun _ _ _ h=>h) (Or.inl ⟨by rfl,?_⟩) ?_ ?_
              rotate_left
              ·intro w'
               go_simp
               with_reducible rfl
              rotate_left
              ·simp only [Act.put,sI_,sZ_,sS_,i64_w,i32_w]
               rfl
              refine take_ (i:=6) (N:=some 27) (v:=?_) (a':=?_) #[true,true,true,true,true,true,true,false,false,true,false,true,false,false,false,false,false,false] rfl rfl (take_ofW HT_.out HW_.out (by kernel_rfl)) (fun _ _ _ h=>h) (Or.inl ⟨by rfl,?_⟩) hHeld ?_ ?_
              rotate_left
              ·rintro w' ⟨s0,s1,s2,s3,s4,s5,s6,s7,s8,s9⟩
               go_simp
               with_reducible rfl
              rotate_left
              ·simp only [Act.put,sI_,sZ_,sS_,i64_w,i32_w]
               rfl
              refine pure_ (i:=7) (N:=some 28) (v:=?_) (a':=?_) #[true,true,true,true,true,true,true,true,false,true,false,true,false,false,false,false,false,false] rfl rfl (any_of HT_.out (by kernel_rfl)) (fun _ _ _ h=>h) (Or.inl ⟨by rfl,?_⟩) ?_ ?_
              rotate_left
              ·intro w'
               go_simp
               with_reducible rfl
              rotate_left
              ·simp only [Act.put,sI_,sZ_,sS_,i64_w,i32_w]
               rfl
              refine pure_ (i:=8) (N:=some 29) (v:=?_) (a':=?_) #[true,true,true,true,true,true,true,true,true,true,false,true,false,false,false,false,false,false] rfl rfl (any_of HT_.out (by kernel_rfl)) (fun _ _ _ h=>h) (Or.inl ⟨by rfl,?_⟩) ?_ ?_
              rotate_left
              ·intro w'
               go_simp
               with_reducible rfl
              rotate_left
              ·simp only [Act.put,sI_,sZ_,sS_,i64_w,i32_w]
               rfl
              refine take_ (i:=10) (N:=some 31) (v:=?_) (a':=?_) (tb_ 12 6) rfl rfl (take_ofW HT_.out HW_.out (by kernel_rfl)) (fun _ _ _ h=>h) (Or.inl ⟨by rfl,?_⟩) hHeld ?_ ?_
              rotate_left
              ·rintro w' ⟨s0,s1,s2,s3,s4,s5,s6,s7,s8,s9⟩
               go_simp
               with_reducible rfl
              rotate_left
              ·simp only [Act.put,sI_,sZ_,sS_,i64_w,i32_w]
               rfl
              refine pure_ (i:=12) (N:=some 33) (v:=?_) (a':=?_) (tb_ 13 5) rfl rfl (any_of HT_.out (by kernel_rfl)) (fun _ _ _ h=>h) (Or.inl ⟨by rfl,?_⟩) ?_ ?_
              rotate_left
              ·intro w'
               go_simp
               with_reducible rfl
              rotate_left
              ·simp only [Act.put,sI_,sZ_,sS_,i64_w,i32_w]
               rfl
              refine pure_ (i:=13) (N:=some 34) (v:=?_) (a':=?_) (tb_ 14 4) rfl rfl (any_of HT_.out (by kernel_rfl)) (fun _ _ _ h=>h) (Or.inl ⟨by rfl,?_⟩) ?_ ?_
              rotate_left
              ·intro w'
               go_simp
               with_reducible rfl
              rotate_left
              ·simp only [Act.put,sI_,sZ_,sS_,i64_w,i32_w]
               rfl
              refine take_ (i:=14) (N:=some 35) (v:=?_) (a':=?_) (tb_ 15 3) rfl rfl (take_ofW HT_.out HW_.out (by kernel_rfl)) (fun _ _ _ h=>h) (Or.inl ⟨by rfl,?_⟩) hHeld ?_ ?_
              rotate_left
              ·rintro w' ⟨s0,s1,s2,s3,s4,s5,s6,s7,s8,s9⟩
               go_simp
               with_reducible rfl
              rotate_left
              ·simp only [Act.put,sI_,sZ_,sS_,i64_w,i32_w]
               rfl
              refine one_ (i:=15) (N:=some 36) (tb_ 16 2) rfl rfl (one_of HT_.out (by kernel_rfl)) (by decide) (fun K hK=>?_)
              refine goes_ Tryd.func66 (by kernel_rfl) rfl #[.int .i64 ((rd_T82 l0_1 x4_1).f1)] (by rfl) rfl rfl (by (try simp only [mA_,mC_,mN_]);first | done | rfl | (simp only [lD_,lT_];rfl)) ?_
              with_reducible refine (spec_l9Type.calls ((rd_T82 l0_1 x4_1).f1) t243 _ A14.out).mono ?_
              rintro e w22 ⟨rfl,hb⟩
              refine ⟨_,rfl,?_⟩
              have n0_:=aM_ (blk_below (g:=gb239) (o:=.cells #[.string a0_0,.slice (some ad241) l0_1.length c0_1,.slice A0_2 l0_2.length c0_2,.slice A0_3 l0_3.length c0_3] 35 (0,0)) (by exact kZ_ BK239) hb)
              have n1_:=aM_ (bT_ (by exact bZ_ HB) hb)
              clear BK239
              clear HB
              have BK239:=n0_
              have HB:=n1_
              clear n0_ n1_
              (try clear hb)
              (try clear hb2)
              (try clear hk)
              (try clear hi)
              refine hK.out _ _ ⟨(kC_ BK239.out 0).trans rfl,(kC_ BK239.out 1).trans rfl,(kC_ BK239.out 2).trans rfl,(kC_ BK239.out 3).trans rfl,((HB.out.cell (wL_ w _ hw241_0)).trans hw241_0),((HB.out.cell (wL_ w _ hw241_1)).trans hw241_1),((HB.out.cell (wL_ w _ hw241_2)).trans hw241_2),((HB.out.cell (wL_ w _ hw242_0)).trans hw242_0),((HB.out.cell (wL_ w _ hw242_1)).trans hw242_1),((HB.out.cell (wL_ w _ hw242_2)).trans hw242_2)⟩ (fun hHeld=>?_)
              clear hK K
              refine norm_ (a':=?_) ?_ ?_
              rotate_left
              ·show Act.put _ (some 36) _ = _
               simp only [Act.put,sI_,sZ_,sS_,i64_w,i32_w]
               rfl
              refine pure_ (i:=16) (N:=some 37) (v:=?_) (a':=?_) (tb_ 17 1) rfl rfl (any_of HT_.out (by kernel_rfl)) (fun _ _ _ h=>h) (Or.inl ⟨by rfl,?_⟩) ?_ ?_
              rotate_left
              ·intro w'
               go_simp
               with_reducible rfl
              rotate_left
              ·simp only [Act.put,sI_,sZ_,sS_,i64_w,i32_w]
               rfl
              refine pure_ (i:=17) (N:=some 3) (v:=?_) (a':=?_) (tb_ 18 0) rfl rfl (any_of HT_.out (by kernel_rfl)) (fun _ _ _ h=>h) (Or.inl ⟨by rfl,?_⟩) ?_ ?_
              rotate_left
              ·intro w'
               go_simp
               with_reducible rfl
              rotate_left
              ·simp only [Act.put,sI_,sZ_,sS_,i64_w,i32_w]
               rfl
              refine done_ (done_of HT_.out (by kernel_rfl)) ?_
              have hcz23_0 : w22.cell? ⟨gb239,0,none⟩ = some (.string a0_0):=(kC_ BK239.out 0).trans rfl
              have hcz23_1 : w22.cell? ⟨gb239,1,none⟩ = some (.slice (some ad241) l0_1.length c0_1):=(kC_ BK239.out 1).trans rfl
              have hcz23_2 : w22.cell? ⟨gb239,2,none⟩ = some (.slice A0_2 l0_2.length c0_2):=(kC_ BK239.out 2).trans rfl
              have hcz23_3 : w22.cell? ⟨gb239,3,none⟩ = some (.slice A0_3 l0_3.length c0_3):=(kC_ BK239.out 3).trans rfl
              have hfz23_0:=kF_ BK239.out 0
              have hfz23_1:=kF_ BK239.out 1
              have hfz23_2:=kF_ BK239.out 2
              have hfz23_3:=kF_ BK239.out 3
              have p244 : 0 ≤ (x4_1 : Int):=oT_ (by first | (with_reducible assumption) | assumption)
              have q244 : x4_1 < (l0_1.length : Int):=oT_ (by first | (with_reducible assumption) | assumption)
              obtain ⟨ad244,e244,hx244_0,hx244_1,hx244_2⟩:=at_T82 HR0_1.out x4_1 p244 q244
              (try rw [← Nbq16.out] at hx244_2)
              obtain rfl : ad241 = ad244:=(by injection e244)
              replace hx244_0:=(HB.out.cell (wL_ w _ hx244_0)).trans hx244_0
              replace hx244_1:=(HB.out.cell (wL_ w _ hx244_1)).trans hx244_1
              replace hx244_2:=(HB.out.cell (wL_ w _ hx244_2)).trans hx244_2
              replace p244:=eq_true p244
              replace q244:=eq_true q244
              try go_wp2
              go_roundg k1
              case measure=>have:=HK1.out;omega
              case rel=>exact ⟨(((((x3_1 ++ ((rd_T82 l0_1 x4_1).f0)) ++ (⟨#[32]⟩ : ByteArray)) ++ t243) ++ (⟨#[32,110,117,108,108]⟩ : ByteArray)) ++ (⟨#[59,32]⟩ : ByteArray)),(wrap64 (x4_1 + 1)),(by first | rfl | (simp;done) | (simp [*];done)),(by first | rfl | (simp;done) | (simp [*];done)),H', ⟨by have:=HK1.out;omega⟩,⟨by exact kZ_ BK239⟩,⟨by exact bZ_ HB⟩⟩
             ·rw [if_neg c19] at H
              exact absurd H (by simp)
            ·rw [if_neg c18] at H
             exact absurd H (by simp)
           ·replace c17:=Bool.eq_false_iff.mpr c17
            subst c17
            have H1 : (if (((x3_1 ++ ((rd_T82 l0_1 x4_1).f0)) ++ (⟨#[32]⟩ : ByteArray)) ++ t243).size + 2 ≤ 9223372036854775807 then (spec_DefText.l0 k1 ((((x3_1 ++ ((rd_T82 l0_1 x4_1).f0)) ++ (⟨#[32]⟩ : ByteArray)) ++ t243) ++ (⟨#[59,32]⟩ : ByteArray)) (wrap64 (x4_1 + 1)) a0_0 l0_1 l0_2 l0_3) else (none)) = some r:=by rw [if_neg (show ¬ (false = true) by decide)] at H;exact H
            clear H
            have H:=H1
            clear H1
            by_cases c24 : (((x3_1 ++ ((rd_T82 l0_1 x4_1).f0)) ++ (⟨#[32]⟩ : ByteArray)) ++ t243).size + 2 ≤ 9223372036854775807
            ·rw [if_pos c24] at H
             have c24b0:=eq_true c24
             have c24b1 : decide ((((x3_1 ++ ((rd_T82 l0_1 x4_1).f0)) ++ (⟨#[32]⟩ : ByteArray)) ++ t243).size + 2 ≤ 9223372036854775807) = true:=decide_eq_true c24
             try have c24b2 : (9223372036854775807 < (((x3_1 ++ ((rd_T82 l0_1 x4_1).f0)) ++ (⟨#[32]⟩ : ByteArray)) ++ t243).size + 2) = False:=eq_false (Nat.not_lt.2 c24)
             have c24b3:=eq_false (Nat.not_lt.2 c24);(repeat rw [ByteArray.size_append] at c24b3);(try rw [show (⟨#[32]⟩ : ByteArray).size = 1 from rfl] at c24b3)
             have H':=aM_ H
             clear H
             have hcz25_0 : wr.cell? ⟨gb239,0,none⟩ = some (.string a0_0):=(kC_ BK239.out 0).trans rfl
             have hcz25_1 : wr.cell? ⟨gb239,1,none⟩ = some (.slice A0_1 l0_1.length c0_1):=(kC_ BK239.out 1).trans rfl
             have hcz25_2 : wr.cell? ⟨gb239,2,none⟩ = some (.slice A0_2 l0_2.length c0_2):=(kC_ BK239.out 2).trans rfl
             have hcz25_3 : wr.cell? ⟨gb239,3,none⟩ = some (.slice A0_3 l0_3.length c0_3):=(kC_ BK239.out 3).trans rfl
             have hfz25_0:=kF_ BK239.out 0
             have hfz25_1:=kF_ BK239.out 1
             have hfz25_2:=kF_ BK239.out 2
             have hfz25_3:=kF_ BK239.out 3
             try go_wp2
             have n0_:=aM_ (kD_ BK239.out)
             have n1_:=aM_ (bD_ HB.out)
             clear BK239
             clear HB
             have BK239:=n0_
             have HB:=n1_
             clear n0_ n1_
             have p241 : 0 ≤ (x4_1 : Int):=oT_ (by first | (with_reducible assumption) | assumption)
             have q241 : x4_1 < (l0_1.length : Int):=oT_ (by first | (with_reducible assumption) | assumption)
             obtain ⟨ad241,e241,hx241_0,hx241_1,hx241_2⟩:=at_T82 HR0_1.out x4_1 p241 q241
             have hw241_2:=hx241_2
             have hw241_1:=hx241_1
             have hw241_0:=hx241_0
             (try rw [← Nbq16.out] at hx241_2)
             (try rw [← Nbq16.out] at hw241_2)
             cases e241
             replace hx241_0:=(HB.out.cell (wL_ w _ hx241_0)).trans hx241_0
             replace hx241_1:=(HB.out.cell (wL_ w _ hx241_1)).trans hx241_1
             replace hx241_2:=(HB.out.cell (wL_ w _ hx241_2)).trans hx241_2
             replace p241:=eq_true p241
             replace q241:=eq_true q241
             have p242 : 0 ≤ (x4_1 : Int):=oT_ (by first | (with_reducible assumption) | assumption)
             have q242 : x4_1 < (l0_1.length : Int):=oT_ (by first | (with_reducible assumption) | assumption)
             obtain ⟨ad242,e242,hx242_0,hx242_1,hx242_2⟩:=at_T82 HR0_1.out x4_1 p242 q242
             have hw242_2:=hx242_2
             have hw242_1:=hx242_1
             have hw242_0:=hx242_0
             (try rw [← Nbq16.out] at hx242_2)
             (try rw [← Nbq16.out] at hw242_2)
             obtain rfl : ad241 = ad242:=(by injection e242)
             replace hx242_0:=(HB.out.cell (wL_ w _ hx242_0)).trans hx242_0
             replace hx242_1:=(HB.out.cell (wL_ w _ hx242_1)).trans hx242_1
             replace hx242_2:=(HB.out.cell (wL_ w _ hx242_2)).trans hx242_2
             replace p242:=eq_true p242
             replace q242:=eq_true q242
             refine start_ (n:=18) (S:=fun w'=>w'.cell? ⟨gb239,0,none⟩ = some (.string a0_0) ∧ w'.cell? ⟨gb239,1,none⟩ = some (.slice (some ad241) l0_1.length c0_1) ∧ w'.cell? ⟨gb239,2,none⟩ = some (.slice A0_2 l0_2.length c0_2) ∧ w'.cell? ⟨gb239,3,none⟩ = some (.slice A0_3 l0_3.length c0_3) ∧ w'.cell? (ad241.add ((x4_1).toNat * 3)) = some (.string ((rd_T82 l0_1 x4_1).f0)) ∧ w'.cell? ⟨(ad241.add ((x4_1).toNat * 3)).block,(ad241.add ((x4_1).toNat * 3)).off + 1,none⟩ = some (.int .i64 ((rd_T82 l0_1 x4_1).f1)) ∧ w'.cell? ⟨(ad241.add ((x4_1).toNat * 3)).block,(ad241.add ((x4_1).toNat * 3)).off + 2,none⟩ = some (.bool false) ∧ w'.cell? (ad241.add ((x4_1).toNat * 3)) = some (.string ((rd_T82 l0_1 x4_1).f0)) ∧ w'.cell? ⟨(ad241.add ((x4_1).toNat * 3)).block,(ad241.add ((x4_1).toNat * 3)).off + 1,none⟩ = some (.int .i64 ((rd_T82 l0_1 x4_1).f1)) ∧ w'.cell? ⟨(ad241.add ((x4_1).toNat * 3)).block,(ad241.add ((x4_1).toNat * 3)).off + 2,none⟩ = some (.bool false)) (ds:=[]) (tb_ 0 18) (by kernel_rfl) rfl rfl ⟨(kC_ BK239.out 0).trans rfl,(kC_ BK239.out 1).trans rfl,(kC_ BK239.out 2).trans rfl,(kC_ BK239.out 3).trans rfl,((HB.out.cell (wL_ w _ hw241_0)).trans hw241_0),((HB.out.cell (wL_ w _ hw241_1)).trans hw241_1),((HB.out.cell (wL_ w _ hw241_2)).trans hw241_2),((HB.out.cell (wL_ w _ hw242_0)).trans hw242_0),((HB.out.cell (wL_ w _ hw242_1)).trans hw242_1),((HB.out.cell (wL_ w _ hw242_2)).trans hw242_2)⟩ (fun hHeld=>?_);refine with_tabW spec_DefText.tab7 spec_DefText.bits7 (fun HT_ HW_=>?_)
             generalize wr.drew = w26 at BK239 HB hx241_0 hx241_1 hx241_2 hx242_0 hx242_1 hx242_2 hHeld ⊢
             refine pure_ (i:=0) (N:=some 21) (v:=?_) (a':=?_) (tb_ 1 17) rfl rfl (any_of HT_.out (by kernel_rfl)) (fun _ _ _ h=>h) (Or.inl ⟨by rfl,?_⟩) ?_ ?_
             rotate_left
             ·intro w'
              go_simp
              with_reducible rfl
             rotate_left
             ·simp only [Act.put,sI_,sZ_,sS_,i64_w,i32_w]
              rfl
             refine pure_ (i:=1) (N:=some 22) (v:=?_) (a':=?_) (tb_ 2 16) rfl rfl (any_of HT_.out (by kernel_rfl)) (fun _ _ _ h=>h) (Or.inl ⟨by rfl,?_⟩) ?_ ?_
             rotate_left
             ·intro w'
              go_simp
              with_reducible rfl
             rotate_left
             ·simp only [Act.put,sI_,sZ_,sS_,i64_w,i32_w]
              rfl
             refine pure_ (i:=3) (N:=some 24) (v:=?_) (a':=?_) #[true,true,false,true,false,false,false,false,false,false,false,false,false,false,false,false,false,false] rfl rfl (any_of HT_.out (by kernel_rfl)) (fun _ _ _ h=>h) (Or.inl ⟨by rfl,?_⟩) ?_ ?_
             rotate_left
             ·intro w'
              go_simp
              with_reducible rfl
             rotate_left
             ·simp only [Act.put,sI_,sZ_,sS_,i64_w,i32_w]
              rfl
             refine pure_ (i:=9) (N:=some 30) (v:=?_) (a':=?_) #[true,true,false,true,false,false,false,false,false,true,false,false,false,false,false,false,false,false] rfl rfl (any_of HT_.out (by kernel_rfl)) (fun _ _ _ h=>h) (Or.inl ⟨by rfl,?_⟩) ?_ ?_
             rotate_left
             ·intro w'
              go_simp
              with_reducible rfl
             rotate_left
             ·simp only [Act.put,sI_,sZ_,sS_,i64_w,i32_w]
              rfl
             refine pure_ (i:=11) (N:=some 32) (v:=?_) (a':=?_) #[true,true,false,true,false,false,false,false,false,true,false,true,false,false,false,false,false,false] rfl rfl (any_of HT_.out (by kernel_rfl)) (fun _ _ _ h=>h) (Or.inl ⟨by rfl,?_⟩) ?_ ?_
             rotate_left
             ·intro w'
              go_simp
              with_reducible rfl
             rotate_left
             ·simp only [Act.put,sI_,sZ_,sS_,i64_w,i32_w]
              rfl
             refine take_ (i:=2) (N:=some 23) (v:=?_) (a':=?_) #[true,true,true,true,false,false,false,false,false,true,false,true,false,false,false,false,false,false] rfl rfl (take_ofW HT_.out HW_.out (by kernel_rfl)) (fun _ _ _ h=>h) (Or.inl ⟨by rfl,?_⟩) hHeld ?_ ?_
             rotate_left
             ·rintro w' ⟨s0,s1,s2,s3,s4,s5,s6,s7,s8,s9⟩
              go_simp
              with_reducible rfl
             rotate_left
             ·simp only [Act.put,sI_,sZ_,sS_,i64_w,i32_w]
              rfl
             refine pure_ (i:=4) (N:=some 25) (v:=?_) (a':=?_) #[true,true,true,true,true,false,false,false,false,true,false,true,false,false,false,false,false,false] rfl rfl (any_of HT_.out (by kernel_rfl)) (fun _ _ _ h=>h) (Or.inl ⟨by rfl,?_⟩) ?_ ?_
             rotate_left
             ·intro w'
              go_simp
              with_reducible rfl
             rotate_left
             ·simp only [Act.put,sI_,sZ_,sS_,i64_w,i32_w]
              rfl
             refine pure_ (i:=5) (N:=some 26) (v:=?_) (a':=?_) #[true,true,true,true,true,true,false,false,false,true,false,true,false,false,false,false,false,false] rfl rfl (any_of HT_.out (by kernel_rfl)) (fun _ _ _ h=>h) (Or.inl ⟨by rfl,?_⟩) ?_ ?_
             rotate_left
             ·intro w'
              go_simp
              with_reducible rfl
             rotate_left
             ·simp only [Act.put,sI_,sZ_,sS_,i64_w,i32_w]
              rfl
             refine take_ (i:=6) (N:=some 27) (v:=?_) (a':=?_) #[true,true,true,true,true,true,true,false,false,true,false,true,false,false,false,false,false,false] rfl rfl (take_ofW HT_.out HW_.out (by kernel_rfl)) (fun _ _ _ h=>h) (Or.inl ⟨by rfl,?_⟩) hHeld ?_ ?_
             rotate_left
             ·rintro w' ⟨s0,s1,s2,s3,s4,s5,s6,s7,s8,s9⟩
              go_simp
              with_reducible rfl
             rotate_left
             ·simp only [Act.put,sI_,sZ_,sS_,i64_w,i32_w]
              rfl
             refine pure_ (i:=7) (N:=some 28) (v:=?_) (a':=?_) #[true,true,true,true,true,true,true,true,false,true,false,true,false,false,false,false,false,false] rfl rfl (any_of HT_.out (by kernel_rfl)) (fun _ _ _ h=>h) (Or.inl ⟨by rfl,?_⟩) ?_ ?_
             rotate_left
             ·intro w'
              go_simp
              with_reducible rfl
             rotate_left
             ·simp only [Act.put,sI_,sZ_,sS_,i64_w,i32_w]
              rfl
             refine pure_ (i:=8) (N:=some 29) (v:=?_) (a':=?_) #[true,true,true,true,true,true,true,true,true,true,false,true,false,false,false,false,false,false] rfl rfl (any_of HT_.out (by kernel_rfl)) (fun _ _ _ h=>h) (Or.inl ⟨by rfl,?_⟩) ?_ ?_
             rotate_left
             ·intro w'
              go_simp
              with_reducible rfl
             rotate_left
             ·simp only [Act.put,sI_,sZ_,sS_,i64_w,i32_w]
              rfl
             refine take_ (i:=10) (N:=some 31) (v:=?_) (a':=?_) (tb_ 12 6) rfl rfl (take_ofW HT_.out HW_.out (by kernel_rfl)) (fun _ _ _ h=>h) (Or.inl ⟨by rfl,?_⟩) hHeld ?_ ?_
             rotate_left
             ·rintro w' ⟨s0,s1,s2,s3,s4,s5,s6,s7,s8,s9⟩
              go_simp
              with_reducible rfl
             rotate_left
             ·simp only [Act.put,sI_,sZ_,sS_,i64_w,i32_w]
              rfl
             refine pure_ (i:=12) (N:=some 33) (v:=?_) (a':=?_) (tb_ 13 5) rfl rfl (any_of HT_.out (by kernel_rfl)) (fun _ _ _ h=>h) (Or.inl ⟨by rfl,?_⟩) ?_ ?_
             rotate_left
             ·intro w'
              go_simp
              with_reducible rfl
             rotate_left
             ·simp only [Act.put,sI_,sZ_,sS_,i64_w,i32_w]
              rfl
             refine pure_ (i:=13) (N:=some 34) (v:=?_) (a':=?_) (tb_ 14 4) rfl rfl (any_of HT_.out (by kernel_rfl)) (fun _ _ _ h=>h) (Or.inl ⟨by rfl,?_⟩) ?_ ?_
             rotate_left
             ·intro w'
              go_simp
              with_reducible rfl
             rotate_left
             ·simp only [Act.put,sI_,sZ_,sS_,i64_w,i32_w]
              rfl
             refine take_ (i:=14) (N:=some 35) (v:=?_) (a':=?_) (tb_ 15 3) rfl rfl (take_ofW HT_.out HW_.out (by kernel_rfl)) (fun _ _ _ h=>h) (Or.inl ⟨by rfl,?_⟩) hHeld ?_ ?_
             rotate_left
             ·rintro w' ⟨s0,s1,s2,s3,s4,s5,s6,s7,s8,s9⟩
              go_simp
              with_reducible rfl
             rotate_left
             ·simp only [Act.put,sI_,sZ_,sS_,i64_w,i32_w]
              rfl
             refine one_ (i:=15) (N:=some 36) (tb_ 16 2) rfl rfl (one_of HT_.out (by kernel_rfl)) (by decide) (fun K hK=>?_)
             refine goes_ Tryd.func66 (by kernel_rfl) rfl #[.int .i64 ((rd_T82 l0_1 x4_1).f1)] (by rfl) rfl rfl (by (try simp only [mA_,mC_,mN_]);first | done | rfl | (simp only [lD_,lT_];rfl)) ?_
             with_reducible refine (spec_l9Type.calls ((rd_T82 l0_1 x4_1).f1) t243 _ A14.out).mono ?_
             rintro e w27 ⟨rfl,hb⟩
             refine ⟨_,rfl,?_⟩
             have n0_:=aM_ (blk_below (g:=gb239) (o:=.cells #[.string a0_0,.slice (some ad241) l0_1.length c0_1,.slice A0_2 l0_2.length c0_2,.slice A0_3 l0_3.length c0_3] 35 (0,0)) (by exact kZ_ BK239) hb)
             have n1_:=aM_ (bT_ (by exact bZ_ HB) hb)
             clear BK239
             clear HB
             have BK239:=n0_
             have HB:=n1_
             clear n0_ n1_
             (try clear hb)
             (try clear hb2)
             (try clear hk)
             (try clear hi)
             refine hK.out _ _ ⟨(kC_ BK239.out 0).trans rfl,(kC_ BK239.out 1).trans rfl,(kC_ BK239.out 2).trans rfl,(kC_ BK239.out 3).trans rfl,((HB.out.cell (wL_ w _ hw241_0)).trans hw241_0),((HB.out.cell (wL_ w _ hw241_1)).trans hw241_1),((HB.out.cell (wL_ w _ hw241_2)).trans hw241_2),((HB.out.cell (wL_ w _ hw242_0)).trans hw242_0),((HB.out.cell (wL_ w _ hw242_1)).trans hw242_1),((HB.out.cell (wL_ w _ hw242_2)).trans hw242_2)⟩ (fun hHeld=>?_)
             clear hK K
             refine norm_ (a':=?_) ?_ ?_
             rotate_left
             ·show Act.put _ (some 36) _ = _
              simp only [Act.put,sI_,sZ_,sS_,i64_w,i32_w]
              rfl
             refine pure_ (i:=16) (N:=some 37) (v:=?_) (a':=?_) (tb_ 17 1) rfl rfl (any_of HT_.out (by kernel_rfl)) (fun _ _ _ h=>h) (Or.inl ⟨by rfl,?_⟩) ?_ ?_
             rotate_left
             ·intro w'
              go_simp
              with_reducible rfl
             rotate_left
             ·simp only [Act.put,sI_,sZ_,sS_,i64_w,i32_w]
              rfl
             refine pure_ (i:=17) (N:=some 3) (v:=?_) (a':=?_) (tb_ 18 0) rfl rfl (any_of HT_.out (by kernel_rfl)) (fun _ _ _ h=>h) (Or.inl ⟨by rfl,?_⟩) ?_ ?_
             rotate_left
             ·intro w'
              go_simp
              with_reducible rfl
             rotate_left
             ·simp only [Act.put,sI_,sZ_,sS_,i64_w,i32_w]
              rfl
             refine done_ (done_of HT_.out (by kernel_rfl)) ?_
             have hcz28_0 : w27.cell? ⟨gb239,0,none⟩ = some (.string a0_0):=(kC_ BK239.out 0).trans rfl
             have hcz28_1 : w27.cell? ⟨gb239,1,none⟩ = some (.slice (some ad241) l0_1.length c0_1):=(kC_ BK239.out 1).trans rfl
             have hcz28_2 : w27.cell? ⟨gb239,2,none⟩ = some (.slice A0_2 l0_2.length c0_2):=(kC_ BK239.out 2).trans rfl
             have hcz28_3 : w27.cell? ⟨gb239,3,none⟩ = some (.slice A0_3 l0_3.length c0_3):=(kC_ BK239.out 3).trans rfl
             have hfz28_0:=kF_ BK239.out 0
             have hfz28_1:=kF_ BK239.out 1
             have hfz28_2:=kF_ BK239.out 2
             have hfz28_3:=kF_ BK239.out 3
             have p244 : 0 ≤ (x4_1 : Int):=oT_ (by first | (with_reducible assumption) | assumption)
             have q244 : x4_1 < (l0_1.length : Int):=oT_ (by first | (with_reducible assumption) | assumption)
             obtain ⟨ad244,e244,hx244_0,hx244_1,hx244_2⟩:=at_T82 HR0_1.out x4_1 p244 q244
             (try rw [← Nbq16.out] at hx244_2)
             obtain rfl : ad241 = ad244:=(by injection e244)
             replace hx244_0:=(HB.out.cell (wL_ w _ hx244_0)).trans hx244_0
             replace hx244_1:=(HB.out.cell (wL_ w _ hx244_1)).trans hx244_1
             replace hx244_2:=(HB.out.cell (wL_ w _ hx244_2)).trans hx244_2
             replace p244:=eq_true p244
             replace q244:=eq_true q244
             try go_wp2
             go_roundg k1
             case measure=>have:=HK1.out;omega
             case rel=>exact ⟨((((x3_1 ++ ((rd_T82 l0_1 x4_1).f0)) ++ (⟨#[32]⟩ : ByteArray)) ++ t243) ++ (⟨#[59,32]⟩ : ByteArray)),(wrap64 (x4_1 + 1)),(by first | rfl | (simp;done) | (simp [*];done)),(by first | rfl | (simp;done) | (simp [*];done)),H', ⟨by have:=HK1.out;omega⟩,⟨by exact kZ_ BK239⟩,⟨by exact bZ_ HB⟩⟩
            ·rw [if_neg c24] at H
             exact absurd H (by simp)
          ·rw [if_neg c15] at H
           exact absurd H (by simp)
         ·rw [if_neg c13] at H
          exact absurd H (by simp)
        ·rw [if_neg c12] at H
         exact absurd H (by simp)
       ·rw [if_neg c11] at H
        exact absurd H (by simp)
      ·rw [if_neg c10] at H
       have c10b0 : decide (x4_1 < (l0_1.length : Int)) = false:=decide_eq_false c10
       clear c10
       by_cases c29 : x3_1.size + 8 ≤ 9223372036854775807
       ·rw [if_pos c29] at H
        have c29b0:=eq_true c29
        have c29b1 : decide (x3_1.size + 8 ≤ 9223372036854775807) = true:=decide_eq_true c29
        try have c29b2 : (9223372036854775807 < x3_1.size + 8) = False:=eq_false (Nat.not_lt.2 c29)
        replace H:=oB_ H
        obtain ⟨t245,A300,H⟩:=H
        replace H : (if (x3_1 ++ (⟨#[112,114,105,109,97,114,121,32]⟩ : ByteArray)).size + t245.size ≤ 9223372036854775807 then (spec_DefText.l1 k1 ((x3_1 ++ (⟨#[112,114,105,109,97,114,121,32]⟩ : ByteArray)) ++ t245) 0 a0_0 l0_1 l0_2 l0_3) else (none)) = some r:=H
        have A30:=aM_ A300
        clear A300
        by_cases c31 : (x3_1 ++ (⟨#[112,114,105,109,97,114,121,32]⟩ : ByteArray)).size + t245.size ≤ 9223372036854775807
        ·rw [if_pos c31] at H
         have c31b0:=eq_true c31
         have c31b1 : decide ((x3_1 ++ (⟨#[112,114,105,109,97,114,121,32]⟩ : ByteArray)).size + t245.size ≤ 9223372036854775807) = true:=decide_eq_true c31
         try have c31b2 : (9223372036854775807 < (x3_1 ++ (⟨#[112,114,105,109,97,114,121,32]⟩ : ByteArray)).size + t245.size) = False:=eq_false (Nat.not_lt.2 c31)
         have c31b3:=eq_false (Nat.not_lt.2 c31);(repeat rw [ByteArray.size_append] at c31b3);(try rw [show (⟨#[112,114,105,109,97,114,121,32]⟩ : ByteArray).size = 8 from rfl] at c31b3)
         have H':=aM_ H
         clear H
         have hcz32_0 : wr.cell? ⟨gb239,0,none⟩ = some (.string a0_0):=(kC_ BK239.out 0).trans rfl
         have hcz32_1 : wr.cell? ⟨gb239,1,none⟩ = some (.slice A0_1 l0_1.length c0_1):=(kC_ BK239.out 1).trans rfl
         have hcz32_2 : wr.cell? ⟨gb239,2,none⟩ = some (.slice A0_2 l0_2.length c0_2):=(kC_ BK239.out 2).trans rfl
         have hcz32_3 : wr.cell? ⟨gb239,3,none⟩ = some (.slice A0_3 l0_3.length c0_3):=(kC_ BK239.out 3).trans rfl
         have hfz32_0:=kF_ BK239.out 0
         have hfz32_1:=kF_ BK239.out 1
         have hfz32_2:=kF_ BK239.out 2
         have hfz32_3:=kF_ BK239.out 3
         go_wp2_with (first | ((with_reducible refine gate_callee (f:=67) rfl ?_);refine goesL_ (some 53) rfl rfl Tryd.func67 (by kernel_rfl) rfl #[.agg #[.string a0_0,.slice A0_1 l0_1.length c0_1,.slice A0_2 l0_2.length c0_2,.slice A0_3 l0_3.length c0_3],.slice A0_2 l0_2.length c0_2] rfl (by (try simp only [mA_,mC_,mN_]);first | done | rfl | (simp only [lD_,lT_];rfl)) ?_;(with_reducible refine (spec_l9PartsText.calls k1 a0_0 _ _ l0_1 _ _ l0_2 _ _ l0_3 _ _ l0_2 t245 _ ?side1 ?side2 ?side3 ?side4 ?side5 ?side6 ?side7 ?side8 A30.out).mono ?_);(case side1=>repeat (first | exact (Kd.C_below HR0_1.out HB.out) | (with_reducible refine cA_ ?_ _) | (with_reducible refine cN_ ?_ _) | (with_reducible refine cD_ ?_)));(case side2=>exact HC0_1.out);(case side3=>repeat (first | exact (Kd.C_below HR0_2.out HB.out) | (with_reducible refine cA_ ?_ _) | (with_reducible refine cN_ ?_ _) | (with_reducible refine cD_ ?_)));(case side4=>exact HC0_2.out);(case side5=>repeat (first | exact (Kd.C_below HR0_3.out HB.out) | (with_reducible refine cA_ ?_ _) | (with_reducible refine cN_ ?_ _) | (with_reducible refine cD_ ?_)));(case side6=>exact HC0_3.out);(case side7=>repeat (first | exact (Kd.C_below HR0_2.out HB.out) | (with_reducible refine cA_ ?_ _) | (with_reducible refine cN_ ?_ _) | (with_reducible refine cD_ ?_)));(case side8=>exact HC0_2.out);rintro e w33 ⟨rfl,hb⟩;refine ⟨_,rfl,?_⟩;have n0_:=aM_ (blk_below (g:=gb239) (o:=.cells #[.string a0_0,.slice A0_1 l0_1.length c0_1,.slice A0_2 l0_2.length c0_2,.slice A0_3 l0_3.length c0_3] 35 (0,0)) (by exact kZ_ BK239) hb);have n1_:=aM_ (bT_ (by exact bZ_ HB) hb);clear BK239;clear HB;have BK239:=n0_;have HB:=n1_;clear n0_ n1_;(try clear hb);(try clear hb2);(try clear hk);(try clear hi)))
         (try simp only [Act.put,sI_,sS_,sZ_])
         go_loopg [3,5] k1 (fun kq v3 v5 w'=>∃ (x3_2 : ByteArray) (x5_2 : Int),v3 = .string x3_2 ∧ v5 = .int .i64 x5_2 ∧ Aside0 (spec_DefText.l1 kq x3_2 x5_2 a0_0 l0_1 l0_2 l0_3 = some r) ∧ Aside0 (kq ≤ k1) ∧ Aside0 (w'.heap[gb239]? = some (.cells #[.string a0_0,(.slice A0_1 l0_1.length c0_1),(.slice A0_2 l0_2.length c0_2),(.slice A0_3 l0_3.length c0_3)] 35 (0,0))) ∧ Aside0 (Below w.heap.size w w'))
         case atStart=>exact ⟨((x3_1 ++ (⟨#[112,114,105,109,97,114,121,32]⟩ : ByteArray)) ++ t245),(0),(by first | rfl | (simp;done) | (simp [*];done)),(by first | rfl | (simp;done) | (simp [*];done)),H', ⟨Nat.le_refl _⟩,⟨by exact kZ_ BK239⟩,⟨by exact bZ_ HB⟩⟩
         case round =>
          clear H'
          try clear c1
          try clear q1
          try clear c2
          try clear p2
          try clear q2
          try clear hx2
          try clear c3
          try clear c3b0
          try clear c3b1
          try clear c4
          try clear c4b0
          try clear c4b1
          try clear c4b2
          try clear c5
          try clear c5b0
          try clear c5b1
          try clear c5b2
          try clear c6
          try clear p6
          try clear c10
          try clear c10b0
          try clear c11
          try clear c11b0
          try clear c12
          try clear c12b0
          try clear c12b1
          try clear c12b2
          try clear c13
          try clear c13b0
          try clear c13b1
          try clear c13b2
          try clear c15
          try clear c15b0
          try clear c15b1
          try clear c15b2
          try clear q16
          try clear c17
          try clear c18
          try clear c18b0
          try clear c18b1
          try clear c18b2
          try clear c19
          try clear c19b0
          try clear c19b1
          try clear c19b2
          try clear c24
          try clear c24b0
          try clear c24b1
          try clear c24b2
          try clear p24
          try clear q24
          try clear hx24
          try clear c29
          try clear c29b0
          try clear c29b1
          try clear c29b2
          try clear c31
          try clear c31b0
          try clear c31b1
          try clear c31b2
          try clear hcz20_0
          try clear hcz20_1
          try clear hcz20_2
          try clear hcz20_3
          try clear hcz23_0
          try clear hcz23_1
          try clear hcz23_2
          try clear hcz23_3
          try clear hcz25_0
          try clear hcz25_1
          try clear hcz25_2
          try clear hcz25_3
          try clear hcz28_0
          try clear hcz28_1
          try clear hcz28_2
          try clear hcz28_3
          try clear hcz32_0
          try clear hcz32_1
          try clear hcz32_2
          try clear hcz32_3
          try clear hcz7_0
          try clear hcz7_1
          try clear hcz7_2
          try clear hcz7_3
          try clear hcz9_0
          try clear hcz9_1
          try clear hcz9_2
          try clear hcz9_3
          try clear hfz20_0
          try clear hfz20_1
          try clear hfz20_2
          try clear hfz20_3
          try clear hfz23_0
          try clear hfz23_1
          try clear hfz23_2
          try clear hfz23_3
          try clear hfz25_0
          try clear hfz25_1
          try clear hfz25_2
          try clear hfz25_3
          try clear hfz28_0
          try clear hfz28_1
          try clear hfz28_2
          try clear hfz28_3
          try clear hfz32_0
          try clear hfz32_1
          try clear hfz32_2
          try clear hfz32_3
          try clear hfz7_0
          try clear hfz7_1
          try clear hfz7_2
          try clear hfz7_3
          try clear hfz9_0
          try clear hfz9_1
          try clear hfz9_2
          try clear hfz9_3
          try clear hx241_0
          try clear hx241_1
          try clear hx241_2
          try clear hx242_0
          try clear hx242_1
          try clear hx242_2
          try clear hx244_0
          try clear hx244_1
          try clear hx244_2
          try clear p2
          try clear p241
          try clear p242
          try clear p244
          try clear q241
          try clear q242
          try clear q244
          obtain ⟨x3_2,x5_2,rfl,rfl,HA,HK2,BK239,HB⟩:=hrel
          cases gk with
          | zero=>exact absurd HA.out (by simp [spec_DefText.l1])
          | succ k2 =>
           have H:=HA.out
           clear HA
           simp only [spec_DefText.l1] at H
           by_cases c34 : x5_2 < (l0_3.length : Int)
           ·rw [if_pos c34] at H
            have c34b0 : decide (x5_2 < (l0_3.length : Int)) = true:=decide_eq_true c34
            clear c34
            by_cases c35 : 0 ≤ x5_2
            ·rw [if_pos c35] at H
             have c35b0 : decide (0 ≤ x5_2) = true:=decide_eq_true c35
             clear c35
             obtain ⟨bq36,hbq36⟩ : ∃ b_ : Bool,b_ = ((rd_T69 l0_3 x5_2).f1):=⟨_,rfl⟩
             replace H : (if bq36 = true then (if x3_2.size + 7 ≤ 9223372036854775807 then (if (x3_2 ++ (⟨#[117,110,105,113,117,101,32]⟩ : ByteArray)).size + ((rd_T69 l0_3 x5_2).f0).size ≤ 9223372036854775807 then (if ((x3_2 ++ (⟨#[117,110,105,113,117,101,32]⟩ : ByteArray)) ++ ((rd_T69 l0_3 x5_2).f0)).size + 1 ≤ 9223372036854775807 then ((spec_l9PartsText.f k2 a0_0 l0_1 l0_2 l0_3 ((rd_T69 l0_3 x5_2).f2)).bind fun t249=>(if (((x3_2 ++ (⟨#[117,110,105,113,117,101,32]⟩ : ByteArray)) ++ ((rd_T69 l0_3 x5_2).f0)) ++ (⟨#[32]⟩ : ByteArray)).size + t249.size ≤ 9223372036854775807 then (spec_DefText.l1 k2 ((((x3_2 ++ (⟨#[117,110,105,113,117,101,32]⟩ : ByteArray)) ++ ((rd_T69 l0_3 x5_2).f0)) ++ (⟨#[32]⟩ : ByteArray)) ++ t249) (wrap64 (x5_2 + 1)) a0_0 l0_1 l0_2 l0_3) else (none))) else (none)) else (none)) else (none)) else (if x3_2.size + 6 ≤ 9223372036854775807 then (if (x3_2 ++ (⟨#[105,110,100,101,120,32]⟩ : ByteArray)).size + ((rd_T69 l0_3 x5_2).f0).size ≤ 9223372036854775807 then (if ((x3_2 ++ (⟨#[105,110,100,101,120,32]⟩ : ByteArray)) ++ ((rd_T69 l0_3 x5_2).f0)).size + 1 ≤ 9223372036854775807 then ((spec_l9PartsText.f k2 a0_0 l0_1 l0_2 l0_3 ((rd_T69 l0_3 x5_2).f2)).bind fun t252=>(if (((x3_2 ++ (⟨#[105,110,100,101,120,32]⟩ : ByteArray)) ++ ((rd_T69 l0_3 x5_2).f0)) ++ (⟨#[32]⟩ : ByteArray)).size + t252.size ≤ 9223372036854775807 then (spec_DefText.l1 k2 ((((x3_2 ++ (⟨#[105,110,100,101,120,32]⟩ : ByteArray)) ++ ((rd_T69 l0_3 x5_2).f0)) ++ (⟨#[32]⟩ : ByteArray)) ++ t252) (wrap64 (x5_2 + 1)) a0_0 l0_1 l0_2 l0_3) else (none))) else (none)) else (none)) else (none))) = some r:=by rw [← hbq36] at H;exact H
             have Nbq36:=aM_ hbq36
             clear hbq36
             by_cases c37 : bq36 = true
             ·subst c37
              have H1 : (if x3_2.size + 7 ≤ 9223372036854775807 then (if (x3_2 ++ (⟨#[117,110,105,113,117,101,32]⟩ : ByteArray)).size + ((rd_T69 l0_3 x5_2).f0).size ≤ 9223372036854775807 then (if ((x3_2 ++ (⟨#[117,110,105,113,117,101,32]⟩ : ByteArray)) ++ ((rd_T69 l0_3 x5_2).f0)).size + 1 ≤ 9223372036854775807 then ((spec_l9PartsText.f k2 a0_0 l0_1 l0_2 l0_3 ((rd_T69 l0_3 x5_2).f2)).bind fun t249=>(if (((x3_2 ++ (⟨#[117,110,105,113,117,101,32]⟩ : ByteArray)) ++ ((rd_T69 l0_3 x5_2).f0)) ++ (⟨#[32]⟩ : ByteArray)).size + t249.size ≤ 9223372036854775807 then (spec_DefText.l1 k2 ((((x3_2 ++ (⟨#[117,110,105,113,117,101,32]⟩ : ByteArray)) ++ ((rd_T69 l0_3 x5_2).f0)) ++ (⟨#[32]⟩ : ByteArray)) ++ t249) (wrap64 (x5_2 + 1)) a0_0 l0_1 l0_2 l0_3) else (none))) else (none)) else (none)) else (none)) = some r:=by rw [if_pos rfl] at H;exact H
              clear H
              have H:=H1
              clear H1
              by_cases c38 : x3_2.size + 7 ≤ 9223372036854775807
              ·rw [if_pos c38] at H
               have c38b0:=eq_true c38
               have c38b1 : decide (x3_2.size + 7 ≤ 9223372036854775807) = true:=decide_eq_true c38
               try have c38b2 : (9223372036854775807 < x3_2.size + 7) = False:=eq_false (Nat.not_lt.2 c38)
               by_cases c39 : (x3_2 ++ (⟨#[117,110,105,113,117,101,32]⟩ : ByteArray)).size + ((rd_T69 l0_3 x5_2).f0).size ≤ 9223372036854775807
               ·rw [if_pos c39] at H
                have c39b0:=eq_true c39
                have c39b1 : decide ((x3_2 ++ (⟨#[117,110,105,113,117,101,32]⟩ : ByteArray)).size + ((rd_T69 l0_3 x5_2).f0).size ≤ 9223372036854775807) = true:=decide_eq_true c39
                try have c39b2 : (9223372036854775807 < (x3_2 ++ (⟨#[117,110,105,113,117,101,32]⟩ : ByteArray)).size + ((rd_T69 l0_3 x5_2).f0).size) = False:=eq_false (Nat.not_lt.2 c39)
                have c39b3:=eq_false (Nat.not_lt.2 c39);(repeat rw [ByteArray.size_append] at c39b3);(try rw [show (⟨#[117,110,105,113,117,101,32]⟩ : ByteArray).size = 7 from rfl] at c39b3)
                by_cases c40 : ((x3_2 ++ (⟨#[117,110,105,113,117,101,32]⟩ : ByteArray)) ++ ((rd_T69 l0_3 x5_2).f0)).size + 1 ≤ 9223372036854775807
                ·rw [if_pos c40] at H
                 have c40b0:=eq_true c40
                 have c40b1 : decide (((x3_2 ++ (⟨#[117,110,105,113,117,101,32]⟩ : ByteArray)) ++ ((rd_T69 l0_3 x5_2).f0)).size + 1 ≤ 9223372036854775807) = true:=decide_eq_true c40
                 try have c40b2 : (9223372036854775807 < ((x3_2 ++ (⟨#[117,110,105,113,117,101,32]⟩ : ByteArray)) ++ ((rd_T69 l0_3 x5_2).f0)).size + 1) = False:=eq_false (Nat.not_lt.2 c40)
                 have c40b3:=eq_false (Nat.not_lt.2 c40);(repeat rw [ByteArray.size_append] at c40b3);(try rw [show (⟨#[117,110,105,113,117,101,32]⟩ : ByteArray).size = 7 from rfl] at c40b3)
                 replace H:=oB_ H
                 obtain ⟨t249,A410,H⟩:=H
                 replace H : (if (((x3_2 ++ (⟨#[117,110,105,113,117,101,32]⟩ : ByteArray)) ++ ((rd_T69 l0_3 x5_2).f0)) ++ (⟨#[32]⟩ : ByteArray)).size + t249.size ≤ 9223372036854775807 then (spec_DefText.l1 k2 ((((x3_2 ++ (⟨#[117,110,105,113,117,101,32]⟩ : ByteArray)) ++ ((rd_T69 l0_3 x5_2).f0)) ++ (⟨#[32]⟩ : ByteArray)) ++ t249) (wrap64 (x5_2 + 1)) a0_0 l0_1 l0_2 l0_3) else (none)) = some r:=H
                 have A41:=aM_ A410
                 clear A410
                 by_cases c42 : (((x3_2 ++ (⟨#[117,110,105,113,117,101,32]⟩ : ByteArray)) ++ ((rd_T69 l0_3 x5_2).f0)) ++ (⟨#[32]⟩ : ByteArray)).size + t249.size ≤ 9223372036854775807
                 ·rw [if_pos c42] at H
                  have c42b0:=eq_true c42
                  have c42b1 : decide ((((x3_2 ++ (⟨#[117,110,105,113,117,101,32]⟩ : ByteArray)) ++ ((rd_T69 l0_3 x5_2).f0)) ++ (⟨#[32]⟩ : ByteArray)).size + t249.size ≤ 9223372036854775807) = true:=decide_eq_true c42
                  try have c42b2 : (9223372036854775807 < (((x3_2 ++ (⟨#[117,110,105,113,117,101,32]⟩ : ByteArray)) ++ ((rd_T69 l0_3 x5_2).f0)) ++ (⟨#[32]⟩ : ByteArray)).size + t249.size) = False:=eq_false (Nat.not_lt.2 c42)
                  have c42b3:=eq_false (Nat.not_lt.2 c42);(repeat rw [ByteArray.size_append] at c42b3);(try rw [show (⟨#[117,110,105,113,117,101,32]⟩ : ByteArray).size = 7 from rfl] at c42b3);(try rw [show (⟨#[32]⟩ : ByteArray).size = 1 from rfl] at c42b3)
                  have H':=aM_ H
                  clear H
                  have hcz43_0 : wr.cell? ⟨gb239,0,none⟩ = some (.string a0_0):=(kC_ BK239.out 0).trans rfl
                  have hcz43_1 : wr.cell? ⟨gb239,1,none⟩ = some (.slice A0_1 l0_1.length c0_1):=(kC_ BK239.out 1).trans rfl
                  have hcz43_2 : wr.cell? ⟨gb239,2,none⟩ = some (.slice A0_2 l0_2.length c0_2):=(kC_ BK239.out 2).trans rfl
                  have hcz43_3 : wr.cell? ⟨gb239,3,none⟩ = some (.slice A0_3 l0_3.length c0_3):=(kC_ BK239.out 3).trans rfl
                  have hfz43_0:=kF_ BK239.out 0
                  have hfz43_1:=kF_ BK239.out 1
                  have hfz43_2:=kF_ BK239.out 2
                  have hfz43_3:=kF_ BK239.out 3
                  have p246 : 0 ≤ (x5_2 : Int):=oT_ (by first | (with_reducible assumption) | assumption)
                  have q246 : x5_2 < (l0_3.length : Int):=oT_ (by first | (with_reducible assumption) | assumption)
                  obtain ⟨ad246,A246_2,c246_2,e246,hx246_0,hx246_1,hx246_2,hl246_2,hi246_2⟩:=at_T69 HR0_3.out x5_2 p246 q246
                  (try rw [← Nbq36.out] at hx246_1)
                  cases e246
                  replace hx246_0:=(HB.out.cell (wL_ w _ hx246_0)).trans hx246_0
                  replace hx246_1:=(HB.out.cell (wL_ w _ hx246_1)).trans hx246_1
                  replace hx246_2:=(HB.out.cell (wL_ w _ hx246_2)).trans hx246_2
                  have HR246_2:=aM_ hi246_2
                  have HC246_2:=aM_ hl246_2
                  clear hi246_2 hl246_2
                  replace p246:=eq_true p246
                  replace q246:=eq_true q246
                  try go_wp2
                  have n0_:=aM_ (kD_ BK239.out)
                  have n1_:=aM_ (bD_ HB.out)
                  clear BK239
                  clear HB
                  have BK239:=n0_
                  have HB:=n1_
                  clear n0_ n1_
                  have p247 : 0 ≤ (x5_2 : Int):=oT_ (by first | (with_reducible assumption) | assumption)
                  have q247 : x5_2 < (l0_3.length : Int):=oT_ (by first | (with_reducible assumption) | assumption)
                  obtain ⟨ad247,A247_2,c247_2,e247,hx247_0,hx247_1,hx247_2,hl247_2,hi247_2⟩:=at_T69 HR0_3.out x5_2 p247 q247
                  have hw247_2:=hx247_2
                  have hw247_1:=hx247_1
                  have hw247_0:=hx247_0
                  (try rw [← Nbq36.out] at hx247_1)
                  (try rw [← Nbq36.out] at hw247_1)
                  obtain rfl : ad246 = ad247:=(by injection e247)
                  replace hx247_0:=(HB.out.cell (wL_ w _ hx247_0)).trans hx247_0
                  replace hx247_1:=(HB.out.cell (wL_ w _ hx247_1)).trans hx247_1
                  replace hx247_2:=(HB.out.cell (wL_ w _ hx247_2)).trans hx247_2
                  have HR247_2:=aM_ hi247_2
                  have HC247_2:=aM_ hl247_2
                  clear hi247_2 hl247_2
                  replace p247:=eq_true p247
                  replace q247:=eq_true q247
                  have p248 : 0 ≤ (x5_2 : Int):=oT_ (by first | (with_reducible assumption) | assumption)
                  have q248 : x5_2 < (l0_3.length : Int):=oT_ (by first | (with_reducible assumption) | assumption)
                  obtain ⟨ad248,A248_2,c248_2,e248,hx248_0,hx248_1,hx248_2,hl248_2,hi248_2⟩:=at_T69 HR0_3.out x5_2 p248 q248
                  have hw248_2:=hx248_2
                  have hw248_1:=hx248_1
                  have hw248_0:=hx248_0
                  (try rw [← Nbq36.out] at hx248_1)
                  (try rw [← Nbq36.out] at hw248_1)
                  obtain rfl : ad246 = ad248:=(by injection e248)
                  replace hx248_0:=(HB.out.cell (wL_ w _ hx248_0)).trans hx248_0
                  replace hx248_1:=(HB.out.cell (wL_ w _ hx248_1)).trans hx248_1
                  replace hx248_2:=(HB.out.cell (wL_ w _ hx248_2)).trans hx248_2
                  have HR248_2:=aM_ hi248_2
                  have HC248_2:=aM_ hl248_2
                  clear hi248_2 hl248_2
                  replace p248:=eq_true p248
                  replace q248:=eq_true q248
                  have ea_:=Option.some.inj (hx247_2.symm.trans hx248_2)
                  injection ea_ with ea_ en_ ec_
                  subst ea_
                  subst ec_
                  clear en_
                  refine start_ (n:=21) (S:=fun w'=>w'.cell? ⟨gb239,0,none⟩ = some (.string a0_0) ∧ w'.cell? ⟨gb239,1,none⟩ = some (.slice A0_1 l0_1.length c0_1) ∧ w'.cell? ⟨gb239,2,none⟩ = some (.slice A0_2 l0_2.length c0_2) ∧ w'.cell? ⟨gb239,3,none⟩ = some (.slice (some ad246) l0_3.length c0_3) ∧ w'.cell? (ad246.add ((x5_2).toNat * 3)) = some (.string ((rd_T69 l0_3 x5_2).f0)) ∧ w'.cell? ⟨(ad246.add ((x5_2).toNat * 3)).block,(ad246.add ((x5_2).toNat * 3)).off + 1,none⟩ = some (.bool (true)) ∧ w'.cell? ⟨(ad246.add ((x5_2).toNat * 3)).block,(ad246.add ((x5_2).toNat * 3)).off + 2,none⟩ = some (.slice A247_2 ((rd_T69 l0_3 x5_2).f2).length c247_2) ∧ w'.cell? (ad246.add ((x5_2).toNat * 3)) = some (.string ((rd_T69 l0_3 x5_2).f0)) ∧ w'.cell? ⟨(ad246.add ((x5_2).toNat * 3)).block,(ad246.add ((x5_2).toNat * 3)).off + 1,none⟩ = some (.bool (true)) ∧ w'.cell? ⟨(ad246.add ((x5_2).toNat * 3)).block,(ad246.add ((x5_2).toNat * 3)).off + 2,none⟩ = some (.slice A247_2 ((rd_T69 l0_3 x5_2).f2).length c247_2)) (ds:=[]) (tb_ 0 21) (by kernel_rfl) rfl rfl ⟨(kC_ BK239.out 0).trans rfl,(kC_ BK239.out 1).trans rfl,(kC_ BK239.out 2).trans rfl,(kC_ BK239.out 3).trans rfl,((HB.out.cell (wL_ w _ hw247_0)).trans hw247_0),((HB.out.cell (wL_ w _ hw247_1)).trans hw247_1),((HB.out.cell (wL_ w _ hw247_2)).trans hw247_2),((HB.out.cell (wL_ w _ hw248_0)).trans hw248_0),((HB.out.cell (wL_ w _ hw248_1)).trans hw248_1),((HB.out.cell (wL_ w _ hw248_2)).trans hw248_2)⟩ (fun hHeld=>?_);refine with_tabW spec_DefText.tab18 spec_DefText.bits18 (fun HT_ HW_=>?_)
                  generalize wr.drew = w44 at BK239 HB HR247_2 HR248_2 hx247_0 hx247_1 hx247_2 hx248_0 hx248_1 hx248_2 hHeld ⊢
                  refine pure_ (i:=0) (N:=some 68) (v:=?_) (a':=?_) (tb_ 1 20) rfl rfl (any_of HT_.out (by kernel_rfl)) (fun _ _ _ h=>h) (Or.inl ⟨by rfl,?_⟩) ?_ ?_
                  rotate_left
                  ·intro w'
                   go_simp
                   with_reducible rfl
                  rotate_left
                  ·simp only [Act.put,sI_,sZ_,sS_,i64_w,i32_w]
                   rfl
                  refine pure_ (i:=1) (N:=some 69) (v:=?_) (a':=?_) (tb_ 2 19) rfl rfl (any_of HT_.out (by kernel_rfl)) (fun _ _ _ h=>h) (Or.inl ⟨by rfl,?_⟩) ?_ ?_
                  rotate_left
                  ·intro w'
                   go_simp
                   with_reducible rfl
                  rotate_left
                  ·simp only [Act.put,sI_,sZ_,sS_,i64_w,i32_w]
                   rfl
                  refine pure_ (i:=2) (N:=some 70) (v:=?_) (a':=?_) (tb_ 3 18) rfl rfl (any_of HT_.out (by kernel_rfl)) (fun _ _ _ h=>h) (Or.inl ⟨by rfl,?_⟩) ?_ ?_
                  rotate_left
                  ·intro w'
                   go_simp
                   with_reducible rfl
                  rotate_left
                  ·simp only [Act.put,sI_,sZ_,sS_,i64_w,i32_w]
                   rfl
                  refine pure_ (i:=3) (N:=some 71) (v:=?_) (a':=?_) (tb_ 4 17) rfl rfl (any_of HT_.out (by kernel_rfl)) (fun _ _ _ h=>h) (Or.inl ⟨by rfl,?_⟩) ?_ ?_
                  rotate_left
                  ·intro w'
                   go_simp
                   with_reducible rfl
                  rotate_left
                  ·simp only [Act.put,sI_,sZ_,sS_,i64_w,i32_w]
                   rfl
                  refine pure_ (i:=5) (N:=some 73) (v:=?_) (a':=?_) #[true,true,true,true,false,true,false,false,false,false,false,false,false,false,false,false,false,false,false,false,false] rfl rfl (any_of HT_.out (by kernel_rfl)) (fun _ _ _ h=>h) (Or.inl ⟨by rfl,?_⟩) ?_ ?_
                  rotate_left
                  ·intro w'
                   go_simp
                   with_reducible rfl
                  rotate_left
                  ·simp only [Act.put,sI_,sZ_,sS_,i64_w,i32_w]
                   rfl
                  refine pure_ (i:=12) (N:=some 80) (v:=?_) (a':=?_) #[true,true,true,true,false,true,false,false,false,false,false,false,true,false,false,false,false,false,false,false,false] rfl rfl (any_of HT_.out (by kernel_rfl)) (fun _ _ _ h=>h) (Or.inl ⟨by rfl,?_⟩) ?_ ?_
                  rotate_left
                  ·intro w'
                   go_simp
                   with_reducible rfl
                  rotate_left
                  ·simp only [Act.put,sI_,sZ_,sS_,i64_w,i32_w]
                   rfl
                  refine pure_ (i:=14) (N:=some 82) (v:=?_) (a':=?_) #[true,true,true,true,false,true,false,false,false,false,false,false,true,false,true,false,false,false,false,false,false] rfl rfl (any_of HT_.out (by kernel_rfl)) (fun _ _ _ h=>h) (Or.inl ⟨by rfl,?_⟩) ?_ ?_
                  rotate_left
                  ·intro w'
                   go_simp
                   with_reducible rfl
                  rotate_left
                  ·simp only [Act.put,sI_,sZ_,sS_,i64_w,i32_w]
                   rfl
                  refine take_ (i:=4) (N:=some 72) (v:=?_) (a':=?_) #[true,true,true,true,true,true,false,false,false,false,false,false,true,false,true,false,false,false,false,false,false] rfl rfl (take_ofW HT_.out HW_.out (by kernel_rfl)) (fun _ _ _ h=>h) (Or.inl ⟨by rfl,?_⟩) hHeld ?_ ?_
                  rotate_left
                  ·rintro w' ⟨s0,s1,s2,s3,s4,s5,s6,s7,s8,s9⟩
                   go_simp
                   with_reducible rfl
                  rotate_left
                  ·simp only [Act.put,sI_,sZ_,sS_,i64_w,i32_w]
                   rfl
                  refine pure_ (i:=6) (N:=some 74) (v:=?_) (a':=?_) #[true,true,true,true,true,true,true,false,false,false,false,false,true,false,true,false,false,false,false,false,false] rfl rfl (any_of HT_.out (by kernel_rfl)) (fun _ _ _ h=>h) (Or.inl ⟨by rfl,?_⟩) ?_ ?_
                  rotate_left
                  ·intro w'
                   go_simp
                   with_reducible rfl
                  rotate_left
                  ·simp only [Act.put,sI_,sZ_,sS_,i64_w,i32_w]
                   rfl
                  refine pure_ (i:=7) (N:=some 75) (v:=?_) (a':=?_) #[true,true,true,true,true,true,true,true,false,false,false,false,true,false,true,false,false,false,false,false,false] rfl rfl (any_of HT_.out (by kernel_rfl)) (fun _ _ _ h=>h) (Or.inl ⟨by rfl,?_⟩) ?_ ?_
                  rotate_left
                  ·intro w'
                   go_simp
                   with_reducible rfl
                  rotate_left
                  ·simp only [Act.put,sI_,sZ_,sS_,i64_w,i32_w]
                   rfl
                  refine take_ (i:=8) (N:=some 76) (v:=?_) (a':=?_) #[true,true,true,true,true,true,true,true,true,false,false,false,true,false,true,false,false,false,false,false,false] rfl rfl (take_ofW HT_.out HW_.out (by kernel_rfl)) (fun _ _ _ h=>h) (Or.inl ⟨by rfl,?_⟩) hHeld ?_ ?_
                  rotate_left
                  ·rintro w' ⟨s0,s1,s2,s3,s4,s5,s6,s7,s8,s9⟩
                   go_simp
                   with_reducible rfl
                  rotate_left
                  ·simp only [Act.put,sI_,sZ_,sS_,i64_w,i32_w]
                   rfl
                  refine pure_ (i:=9) (N:=some 77) (v:=?_) (a':=?_) #[true,true,true,true,true,true,true,true,true,true,false,false,true,false,true,false,false,false,false,false,false] rfl rfl (any_of HT_.out (by kernel_rfl)) (fun _ _ _ h=>h) (Or.inl ⟨by rfl,?_⟩) ?_ ?_
                  rotate_left
                  ·intro w'
                   go_simp
                   with_reducible rfl
                  rotate_left
                  ·simp only [Act.put,sI_,sZ_,sS_,i64_w,i32_w]
                   rfl
                  refine pure_ (i:=10) (N:=some 78) (v:=?_) (a':=?_) #[true,true,true,true,true,true,true,true,true,true,true,false,true,false,true,false,false,false,false,false,false] rfl rfl (any_of HT_.out (by kernel_rfl)) (fun _ _ _ h=>h) (Or.inl ⟨by rfl,?_⟩) ?_ ?_
                  rotate_left
                  ·intro w'
                   go_simp
                   with_reducible rfl
                  rotate_left
                  ·simp only [Act.put,sI_,sZ_,sS_,i64_w,i32_w]
                   rfl
                  refine take_ (i:=11) (N:=some 79) (v:=?_) (a':=?_) #[true,true,true,true,true,true,true,true,true,true,true,true,true,false,true,false,false,false,false,false,false] rfl rfl (take_ofW HT_.out HW_.out (by kernel_rfl)) (fun _ _ _ h=>h) (Or.inl ⟨by rfl,?_⟩) hHeld ?_ ?_
                  rotate_left
                  ·rintro w' ⟨s0,s1,s2,s3,s4,s5,s6,s7,s8,s9⟩
                   go_simp
                   with_reducible rfl
                  rotate_left
                  ·simp only [Act.put,sI_,sZ_,sS_,i64_w,i32_w]
                   rfl
                  refine take_ (i:=13) (N:=some 81) (v:=?_) (a':=?_) (tb_ 15 6) rfl rfl (take_ofW HT_.out HW_.out (by kernel_rfl)) (fun _ _ _ h=>h) (Or.inl ⟨by rfl,?_⟩) hHeld ?_ ?_
                  rotate_left
                  ·rintro w' ⟨s0,s1,s2,s3,s4,s5,s6,s7,s8,s9⟩
                   go_simp
                   with_reducible rfl
                  rotate_left
                  ·simp only [Act.put,sI_,sZ_,sS_,i64_w,i32_w]
                   rfl
                  refine pure_ (i:=15) (N:=some 83) (v:=?_) (a':=?_) (tb_ 16 5) rfl rfl (any_of HT_.out (by kernel_rfl)) (fun _ _ _ h=>h) (Or.inl ⟨by rfl,?_⟩) ?_ ?_
                  rotate_left
                  ·intro w'
                   go_simp
                   with_reducible rfl
                  rotate_left
                  ·simp only [Act.put,sI_,sZ_,sS_,i64_w,i32_w]
                   rfl
                  refine pure_ (i:=16) (N:=some 84) (v:=?_) (a':=?_) (tb_ 17 4) rfl rfl (any_of HT_.out (by kernel_rfl)) (fun _ _ _ h=>h) (Or.inl ⟨by rfl,?_⟩) ?_ ?_
                  rotate_left
                  ·intro w'
                   go_simp
                   with_reducible rfl
                  rotate_left
                  ·simp only [Act.put,sI_,sZ_,sS_,i64_w,i32_w]
                   rfl
                  refine take_ (i:=17) (N:=some 85) (v:=?_) (a':=?_) (tb_ 18 3) rfl rfl (take_ofW HT_.out HW_.out (by kernel_rfl)) (fun _ _ _ h=>h) (Or.inl ⟨by rfl,?_⟩) hHeld ?_ ?_
                  rotate_left
                  ·rintro w' ⟨s0,s1,s2,s3,s4,s5,s6,s7,s8,s9⟩
                   go_simp
                   with_reducible rfl
                  rotate_left
                  ·simp only [Act.put,sI_,sZ_,sS_,i64_w,i32_w]
                   rfl
                  refine one_ (i:=18) (N:=some 86) (tb_ 19 2) rfl rfl (one_of HT_.out (by kernel_rfl)) (by decide) (fun K hK=>?_)
                  refine goes_ Tryd.func67 (by kernel_rfl) rfl #[.agg #[.string a0_0,.slice A0_1 l0_1.length c0_1,.slice A0_2 l0_2.length c0_2,.slice (some ad246) l0_3.length c0_3],.slice A247_2 ((rd_T69 l0_3 x5_2).f2).length c247_2] (by rfl) rfl rfl (by (try simp only [mA_,mC_,mN_]);first | done | rfl | (simp only [lD_,lT_];rfl)) ?_
                  with_reducible refine (spec_l9PartsText.calls k2 a0_0 _ _ l0_1 _ _ l0_2 _ _ l0_3 _ _ ((rd_T69 l0_3 x5_2).f2) t249 _ ?side1 ?side2 ?side3 ?side4 ?side5 ?side6 ?side7 ?side8 A41.out).mono ?_
                  (case side1=>repeat (first | exact (Kd.C_below HR0_1.out HB.out) | (with_reducible refine cA_ ?_ _) | (with_reducible refine cN_ ?_ _) | (with_reducible refine cD_ ?_)))
                  (case side2=>exact HC0_1.out)
                  (case side3=>repeat (first | exact (Kd.C_below HR0_2.out HB.out) | (with_reducible refine cA_ ?_ _) | (with_reducible refine cN_ ?_ _) | (with_reducible refine cD_ ?_)))
                  (case side4=>exact HC0_2.out)
                  (case side5=>repeat (first | exact (Kd.C_below HR0_3.out HB.out) | (with_reducible refine cA_ ?_ _) | (with_reducible refine cN_ ?_ _) | (with_reducible refine cD_ ?_)))
                  (case side6=>exact HC0_3.out)
                  (case side7=>repeat (first | exact (Kd.C_below HR248_2.out HB.out) | (with_reducible refine cA_ ?_ _) | (with_reducible refine cN_ ?_ _) | (with_reducible refine cD_ ?_)))
                  (case side8=>exact HC248_2.out)
                  rintro e w45 ⟨rfl,hb⟩
                  refine ⟨_,rfl,?_⟩
                  have n0_:=aM_ (blk_below (g:=gb239) (o:=.cells #[.string a0_0,.slice A0_1 l0_1.length c0_1,.slice A0_2 l0_2.length c0_2,.slice (some ad246) l0_3.length c0_3] 35 (0,0)) (by exact kZ_ BK239) hb)
                  have n1_:=aM_ (bT_ (by exact bZ_ HB) hb)
                  clear BK239
                  clear HB
                  have BK239:=n0_
                  have HB:=n1_
                  clear n0_ n1_
                  (try clear hb)
                  (try clear hb2)
                  (try clear hk)
                  (try clear hi)
                  refine hK.out _ _ ⟨(kC_ BK239.out 0).trans rfl,(kC_ BK239.out 1).trans rfl,(kC_ BK239.out 2).trans rfl,(kC_ BK239.out 3).trans rfl,((HB.out.cell (wL_ w _ hw247_0)).trans hw247_0),((HB.out.cell (wL_ w _ hw247_1)).trans hw247_1),((HB.out.cell (wL_ w _ hw247_2)).trans hw247_2),((HB.out.cell (wL_ w _ hw248_0)).trans hw248_0),((HB.out.cell (wL_ w _ hw248_1)).trans hw248_1),((HB.out.cell (wL_ w _ hw248_2)).trans hw248_2)⟩ (fun hHeld=>?_)
                  clear hK K
                  refine norm_ (a':=?_) ?_ ?_
                  rotate_left
                  ·show Act.put _ (some 86) _ = _
                   simp only [Act.put,sI_,sZ_,sS_,i64_w,i32_w]
                   rfl
                  refine pure_ (i:=19) (N:=some 87) (v:=?_) (a':=?_) (tb_ 20 1) rfl rfl (any_of HT_.out (by kernel_rfl)) (fun _ _ _ h=>h) (Or.inl ⟨by rfl,?_⟩) ?_ ?_
                  rotate_left
                  ·intro w'
                   go_simp
                   with_reducible rfl
                  rotate_left
                  ·simp only [Act.put,sI_,sZ_,sS_,i64_w,i32_w]
                   rfl
                  refine pure_ (i:=20) (N:=some 3) (v:=?_) (a':=?_) (tb_ 21 0) rfl rfl (any_of HT_.out (by kernel_rfl)) (fun _ _ _ h=>h) (Or.inl ⟨by rfl,?_⟩) ?_ ?_
                  rotate_left
                  ·intro w'
                   go_simp
                   with_reducible rfl
                  rotate_left
                  ·simp only [Act.put,sI_,sZ_,sS_,i64_w,i32_w]
                   rfl
                  refine done_ (done_of HT_.out (by kernel_rfl)) ?_
                  try go_wp2
                  go_roundg k2
                  case measure=>have:=HK1.out;have:=HK2.out;omega
                  case rel=>exact ⟨((((x3_2 ++ (⟨#[117,110,105,113,117,101,32]⟩ : ByteArray)) ++ ((rd_T69 l0_3 x5_2).f0)) ++ (⟨#[32]⟩ : ByteArray)) ++ t249),(wrap64 (x5_2 + 1)),(by first | rfl | (simp;done) | (simp [*];done)),(by first | rfl | (simp;done) | (simp [*];done)),H', ⟨by have:=HK1.out;have:=HK2.out;omega⟩,⟨by exact kZ_ BK239⟩,⟨by exact bZ_ HB⟩⟩
                 ·rw [if_neg c42] at H
                  exact absurd H (by simp)
                ·rw [if_neg c40] at H
                 exact absurd H (by simp)
               ·rw [if_neg c39] at H
                exact absurd H (by simp)
              ·rw [if_neg c38] at H
               exact absurd H (by simp)
             ·replace c37:=Bool.eq_false_iff.mpr c37
              subst c37
              have H1 : (if x3_2.size + 6 ≤ 9223372036854775807 then (if (x3_2 ++ (⟨#[105,110,100,101,120,32]⟩ : ByteArray)).size + ((rd_T69 l0_3 x5_2).f0).size ≤ 9223372036854775807 then (if ((x3_2 ++ (⟨#[105,110,100,101,120,32]⟩ : ByteArray)) ++ ((rd_T69 l0_3 x5_2).f0)).size + 1 ≤ 9223372036854775807 then ((spec_l9PartsText.f k2 a0_0 l0_1 l0_2 l0_3 ((rd_T69 l0_3 x5_2).f2)).bind fun t252=>(if (((x3_2 ++ (⟨#[105,110,100,101,120,32]⟩ : ByteArray)) ++ ((rd_T69 l0_3 x5_2).f0)) ++ (⟨#[32]⟩ : ByteArray)).size + t252.size ≤ 9223372036854775807 then (spec_DefText.l1 k2 ((((x3_2 ++ (⟨#[105,110,100,101,120,32]⟩ : ByteArray)) ++ ((rd_T69 l0_3 x5_2).f0)) ++ (⟨#[32]⟩ : ByteArray)) ++ t252) (wrap64 (x5_2 + 1)) a0_0 l0_1 l0_2 l0_3) else (none))) else (none)) else (none)) else (none)) = some r:=by rw [if_neg (show ¬ (false = true) by decide)] at H;exact H
              clear H
              have H:=H1
              clear H1
              by_cases c46 : x3_2.size + 6 ≤ 9223372036854775807
              ·rw [if_pos c46] at H
               have c46b0:=eq_true c46
               have c46b1 : decide (x3_2.size + 6 ≤ 9223372036854775807) = true:=decide_eq_true c46
               try have c46b2 : (9223372036854775807 < x3_2.size + 6) = False:=eq_false (Nat.not_lt.2 c46)
               by_cases c47 : (x3_2 ++ (⟨#[105,110,100,101,120,32]⟩ : ByteArray)).size + ((rd_T69 l0_3 x5_2).f0).size ≤ 9223372036854775807
               ·rw [if_pos c47] at H
                have c47b0:=eq_true c47
                have c47b1 : decide ((x3_2 ++ (⟨#[105,110,100,101,120,32]⟩ : ByteArray)).size + ((rd_T69 l0_3 x5_2).f0).size ≤ 9223372036854775807) = true:=decide_eq_true c47
                try have c47b2 : (9223372036854775807 < (x3_2 ++ (⟨#[105,110,100,101,120,32]⟩ : ByteArray)).size + ((rd_T69 l0_3 x5_2).f0).size) = False:=eq_false (Nat.not_lt.2 c47)
                have c47b3:=eq_false (Nat.not_lt.2 c47);(repeat rw [ByteArray.size_append] at c47b3);(try rw [show (⟨#[105,110,100,101,120,32]⟩ : ByteArray).size = 6 from rfl] at c47b3)
                by_cases c48 : ((x3_2 ++ (⟨#[105,110,100,101,120,32]⟩ : ByteArray)) ++ ((rd_T69 l0_3 x5_2).f0)).size + 1 ≤ 9223372036854775807
                ·rw [if_pos c48] at H
                 have c48b0:=eq_true c48
                 have c48b1 : decide (((x3_2 ++ (⟨#[105,110,100,101,120,32]⟩ : ByteArray)) ++ ((rd_T69 l0_3 x5_2).f0)).size + 1 ≤ 9223372036854775807) = true:=decide_eq_true c48
                 try have c48b2 : (9223372036854775807 < ((x3_2 ++ (⟨#[105,110,100,101,120,32]⟩ : ByteArray)) ++ ((rd_T69 l0_3 x5_2).f0)).size + 1) = False:=eq_false (Nat.not_lt.2 c48)
                 have c48b3:=eq_false (Nat.not_lt.2 c48);(repeat rw [ByteArray.size_append] at c48b3);(try rw [show (⟨#[105,110,100,101,120,32]⟩ : ByteArray).size = 6 from rfl] at c48b3)
                 replace H:=oB_ H
                 obtain ⟨t252,A490,H⟩:=H
                 replace H : (if (((x3_2 ++ (⟨#[105,110,100,101,120,32]⟩ : ByteArray)) ++ ((rd_T69 l0_3 x5_2).f0)) ++ (⟨#[32]⟩ : ByteArray)).size + t252.size ≤ 9223372036854775807 then (spec_DefText.l1 k2 ((((x3_2 ++ (⟨#[105,110,100,101,120,32]⟩ : ByteArray)) ++ ((rd_T69 l0_3 x5_2).f0)) ++ (⟨#[32]⟩ : ByteArray)) ++ t252) (wrap64 (x5_2 + 1)) a0_0 l0_1 l0_2 l0_3) else (none)) = some r:=H
                 have A49:=aM_ A490
                 clear A490
                 by_cases c50 : (((x3_2 ++ (⟨#[105,110,100,101,120,32]⟩ : ByteArray)) ++ ((rd_T69 l0_3 x5_2).f0)) ++ (⟨#[32]⟩ : ByteArray)).size + t252.size ≤ 9223372036854775807
                 ·rw [if_pos c50] at H
                  have c50b0:=eq_true c50
                  have c50b1 : decide ((((x3_2 ++ (⟨#[105,110,100,101,120,32]⟩ : ByteArray)) ++ ((rd_T69 l0_3 x5_2).f0)) ++ (⟨#[32]⟩ : ByteArray)).size + t252.size ≤ 9223372036854775807) = true:=decide_eq_true c50
                  try have c50b2 : (9223372036854775807 < (((x3_2 ++ (⟨#[105,110,100,101,120,32]⟩ : ByteArray)) ++ ((rd_T69 l0_3 x5_2).f0)) ++ (⟨#[32]⟩ : ByteArray)).size + t252.size) = False:=eq_false (Nat.not_lt.2 c50)
                  have c50b3:=eq_false (Nat.not_lt.2 c50);(repeat rw [ByteArray.size_append] at c50b3);(try rw [show (⟨#[105,110,100,101,120,32]⟩ : ByteArray).size = 6 from rfl] at c50b3);(try rw [show (⟨#[32]⟩ : ByteArray).size = 1 from rfl] at c50b3)
                  have H':=aM_ H
                  clear H
                  have hcz51_0 : wr.cell? ⟨gb239,0,none⟩ = some (.string a0_0):=(kC_ BK239.out 0).trans rfl
                  have hcz51_1 : wr.cell? ⟨gb239,1,none⟩ = some (.slice A0_1 l0_1.length c0_1):=(kC_ BK239.out 1).trans rfl
                  have hcz51_2 : wr.cell? ⟨gb239,2,none⟩ = some (.slice A0_2 l0_2.length c0_2):=(kC_ BK239.out 2).trans rfl
                  have hcz51_3 : wr.cell? ⟨gb239,3,none⟩ = some (.slice A0_3 l0_3.length c0_3):=(kC_ BK239.out 3).trans rfl
                  have hfz51_0:=kF_ BK239.out 0
                  have hfz51_1:=kF_ BK239.out 1
                  have hfz51_2:=kF_ BK239.out 2
                  have hfz51_3:=kF_ BK239.out 3
                  have p246 : 0 ≤ (x5_2 : Int):=oT_ (by first | (with_reducible assumption) | assumption)
                  have q246 : x5_2 < (l0_3.length : Int):=oT_ (by first | (with_reducible assumption) | assumption)
                  obtain ⟨ad246,A246_2,c246_2,e246,hx246_0,hx246_1,hx246_2,hl246_2,hi246_2⟩:=at_T69 HR0_3.out x5_2 p246 q246
                  (try rw [← Nbq36.out] at hx246_1)
                  cases e246
                  replace hx246_0:=(HB.out.cell (wL_ w _ hx246_0)).trans hx246_0
                  replace hx246_1:=(HB.out.cell (wL_ w _ hx246_1)).trans hx246_1
                  replace hx246_2:=(HB.out.cell (wL_ w _ hx246_2)).trans hx246_2
                  have HR246_2:=aM_ hi246_2
                  have HC246_2:=aM_ hl246_2
                  clear hi246_2 hl246_2
                  replace p246:=eq_true p246
                  replace q246:=eq_true q246
                  try go_wp2
                  have n0_:=aM_ (kD_ BK239.out)
                  have n1_:=aM_ (bD_ HB.out)
                  clear BK239
                  clear HB
                  have BK239:=n0_
                  have HB:=n1_
                  clear n0_ n1_
                  have p250 : 0 ≤ (x5_2 : Int):=oT_ (by first | (with_reducible assumption) | assumption)
                  have q250 : x5_2 < (l0_3.length : Int):=oT_ (by first | (with_reducible assumption) | assumption)
                  obtain ⟨ad250,A250_2,c250_2,e250,hx250_0,hx250_1,hx250_2,hl250_2,hi250_2⟩:=at_T69 HR0_3.out x5_2 p250 q250
                  have hw250_2:=hx250_2
                  have hw250_1:=hx250_1
                  have hw250_0:=hx250_0
                  (try rw [← Nbq36.out] at hx250_1)
                  (try rw [← Nbq36.out] at hw250_1)
                  obtain rfl : ad246 = ad250:=(by injection e250)
                  replace hx250_0:=(HB.out.cell (wL_ w _ hx250_0)).trans hx250_0
                  replace hx250_1:=(HB.out.cell (wL_ w _ hx250_1)).trans hx250_1
                  replace hx250_2:=(HB.out.cell (wL_ w _ hx250_2)).trans hx250_2
                  have HR250_2:=aM_ hi250_2
                  have HC250_2:=aM_ hl250_2
                  clear hi250_2 hl250_2
                  replace p250:=eq_true p250
                  replace q250:=eq_true q250
                  have p251 : 0 ≤ (x5_2 : Int):=oT_ (by first | (with_reducible assumption) | assumption)
                  have q251 : x5_2 < (l0_3.length : Int):=oT_ (by first | (with_reducible assumption) | assumption)
                  obtain ⟨ad251,A251_2,c251_2,e251,hx251_0,hx251_1,hx251_2,hl251_2,hi251_2⟩:=at_T69 HR0_3.out x5_2 p251 q251
                  have hw251_2:=hx251_2
                  have hw251_1:=hx251_1
                  have hw251_0:=hx251_0
                  (try rw [← Nbq36.out] at hx251_1)
                  (try rw [← Nbq36.out] at hw251_1)
                  obtain rfl : ad246 = ad251:=(by injection e251)
                  replace hx251_0:=(HB.out.cell (wL_ w _ hx251_0)).trans hx251_0
                  replace hx251_1:=(HB.out.cell (wL_ w _ hx251_1)).trans hx251_1
                  replace hx251_2:=(HB.out.cell (wL_ w _ hx251_2)).trans hx251_2
                  have HR251_2:=aM_ hi251_2
                  have HC251_2:=aM_ hl251_2
                  clear hi251_2 hl251_2
                  replace p251:=eq_true p251
                  replace q251:=eq_true q251
                  have ea_:=Option.some.inj (hx250_2.symm.trans hx251_2)
                  injection ea_ with ea_ en_ ec_
                  subst ea_
                  subst ec_
                  clear en_
                  refine start_ (n:=21) (S:=fun w'=>w'.cell? ⟨gb239,0,none⟩ = some (.string a0_0) ∧ w'.cell? ⟨gb239,1,none⟩ = some (.slice A0_1 l0_1.length c0_1) ∧ w'.cell? ⟨gb239,2,none⟩ = some (.slice A0_2 l0_2.length c0_2) ∧ w'.cell? ⟨gb239,3,none⟩ = some (.slice (some ad246) l0_3.length c0_3) ∧ w'.cell? (ad246.add ((x5_2).toNat * 3)) = some (.string ((rd_T69 l0_3 x5_2).f0)) ∧ w'.cell? ⟨(ad246.add ((x5_2).toNat * 3)).block,(ad246.add ((x5_2).toNat * 3)).off + 1,none⟩ = some (.bool (false)) ∧ w'.cell? ⟨(ad246.add ((x5_2).toNat * 3)).block,(ad246.add ((x5_2).toNat * 3)).off + 2,none⟩ = some (.slice A250_2 ((rd_T69 l0_3 x5_2).f2).length c250_2) ∧ w'.cell? (ad246.add ((x5_2).toNat * 3)) = some (.string ((rd_T69 l0_3 x5_2).f0)) ∧ w'.cell? ⟨(ad246.add ((x5_2).toNat * 3)).block,(ad246.add ((x5_2).toNat * 3)).off + 1,none⟩ = some (.bool (false)) ∧ w'.cell? ⟨(ad246.add ((x5_2).toNat * 3)).block,(ad246.add ((x5_2).toNat * 3)).off + 2,none⟩ = some (.slice A250_2 ((rd_T69 l0_3 x5_2).f2).length c250_2)) (ds:=[]) (tb_ 0 21) (by kernel_rfl) rfl rfl ⟨(kC_ BK239.out 0).trans rfl,(kC_ BK239.out 1).trans rfl,(kC_ BK239.out 2).trans rfl,(kC_ BK239.out 3).trans rfl,((HB.out.cell (wL_ w _ hw250_0)).trans hw250_0),((HB.out.cell (wL_ w _ hw250_1)).trans hw250_1),((HB.out.cell (wL_ w _ hw250_2)).trans hw250_2),((HB.out.cell (wL_ w _ hw251_0)).trans hw251_0),((HB.out.cell (wL_ w _ hw251_1)).trans hw251_1),((HB.out.cell (wL_ w _ hw251_2)).trans hw251_2)⟩ (fun hHeld=>?_);refine with_tabW spec_DefText.tab18 spec_DefText.bits18 (fun HT_ HW_=>?_)
                  generalize wr.drew = w52 at BK239 HB HR250_2 HR251_2 hx250_0 hx250_1 hx250_2 hx251_0 hx251_1 hx251_2 hHeld ⊢
                  refine pure_ (i:=0) (N:=some 68) (v:=?_) (a':=?_) (tb_ 1 20) rfl rfl (any_of HT_.out (by kernel_rfl)) (fun _ _ _ h=>h) (Or.inl ⟨by rfl,?_⟩) ?_ ?_
                  rotate_left
                  ·intro w'
                   go_simp
                   with_reducible rfl
                  rotate_left
                  ·simp only [Act.put,sI_,sZ_,sS_,i64_w,i32_w]
                   rfl
                  refine pure_ (i:=1) (N:=some 69) (v:=?_) (a':=?_) (tb_ 2 19) rfl rfl (any_of HT_.out (by kernel_rfl)) (fun _ _ _ h=>h) (Or.inl ⟨by rfl,?_⟩) ?_ ?_
                  rotate_left
                  ·intro w'
                   go_simp
                   with_reducible rfl
                  rotate_left
                  ·simp only [Act.put,sI_,sZ_,sS_,i64_w,i32_w]
                   rfl
                  refine pure_ (i:=2) (N:=some 70) (v:=?_) (a':=?_) (tb_ 3 18) rfl rfl (any_of HT_.out (by kernel_rfl)) (fun _ _ _ h=>h) (Or.inl ⟨by rfl,?_⟩) ?_ ?_
                  rotate_left
                  ·intro w'
                   go_simp
                   with_reducible rfl
                  rotate_left
                  ·simp only [Act.put,sI_,sZ_,sS_,i64_w,i32_w]
                   rfl
                  refine pure_ (i:=3) (N:=some 71) (v:=?_) (a':=?_) (tb_ 4 17) rfl rfl (any_of HT_.out (by kernel_rfl)) (fun _ _ _ h=>h) (Or.inl ⟨by rfl,?_⟩) ?_ ?_
                  rotate_left
                  ·intro w'
                   go_simp
                   with_reducible rfl
                  rotate_left
                  ·simp only [Act.put,sI_,sZ_,sS_,i64_w,i32_w]
                   rfl
                  refine pure_ (i:=5) (N:=some 73) (v:=?_) (a':=?_) #[true,true,true,true,false,true,false,false,false,false,false,false,false,false,false,false,false,false,false,false,false] rfl rfl (any_of HT_.out (by kernel_rfl)) (fun _ _ _ h=>h) (Or.inl ⟨by rfl,?_⟩) ?_ ?_
                  rotate_left
                  ·intro w'
                   go_simp
                   with_reducible rfl
                  rotate_left
                  ·simp only [Act.put,sI_,sZ_,sS_,i64_w,i32_w]
                   rfl
                  refine pure_ (i:=12) (N:=some 80) (v:=?_) (a':=?_) #[true,true,true,true,false,true,false,false,false,false,false,false,true,false,false,false,false,false,false,false,false] rfl rfl (any_of HT_.out (by kernel_rfl)) (fun _ _ _ h=>h) (Or.inl ⟨by rfl,?_⟩) ?_ ?_
                  rotate_left
                  ·intro w'
                   go_simp
                   with_reducible rfl
                  rotate_left
                  ·simp only [Act.put,sI_,sZ_,sS_,i64_w,i32_w]
                   rfl
                  refine pure_ (i:=14) (N:=some 82) (v:=?_) (a':=?_) #[true,true,true,true,false,true,false,false,false,false,false,false,true,false,true,false,false,false,false,false,false] rfl rfl (any_of HT_.out (by kernel_rfl)) (fun _ _ _ h=>h) (Or.inl ⟨by rfl,?_⟩) ?_ ?_
                  rotate_left
                  ·intro w'
                   go_simp
                   with_reducible rfl
                  rotate_left
                  ·simp only [Act.put,sI_,sZ_,sS_,i64_w,i32_w]
                   rfl
                  refine take_ (i:=4) (N:=some 72) (v:=?_) (a':=?_) #[true,true,true,true,true,true,false,false,false,false,false,false,true,false,true,false,false,false,false,false,false] rfl rfl (take_ofW HT_.out HW_.out (by kernel_rfl)) (fun _ _ _ h=>h) (Or.inl ⟨by rfl,?_⟩) hHeld ?_ ?_
                  rotate_left
                  ·rintro w' ⟨s0,s1,s2,s3,s4,s5,s6,s7,s8,s9⟩
                   go_simp
                   with_reducible rfl
                  rotate_left
                  ·simp only [Act.put,sI_,sZ_,sS_,i64_w,i32_w]
                   rfl
                  refine pure_ (i:=6) (N:=some 74) (v:=?_) (a':=?_) #[true,true,true,true,true,true,true,false,false,false,false,false,true,false,true,false,false,false,false,false,false] rfl rfl (any_of HT_.out (by kernel_rfl)) (fun _ _ _ h=>h) (Or.inl ⟨by rfl,?_⟩) ?_ ?_
                  rotate_left
                  ·intro w'
                   go_simp
                   with_reducible rfl
                  rotate_left
                  ·simp only [Act.put,sI_,sZ_,sS_,i64_w,i32_w]
                   rfl
                  refine pure_ (i:=7) (N:=some 75) (v:=?_) (a':=?_) #[true,true,true,true,true,true,true,true,false,false,false,false,true,false,true,false,false,false,false,false,false] rfl rfl (any_of HT_.out (by kernel_rfl)) (fun _ _ _ h=>h) (Or.inl ⟨by rfl,?_⟩) ?_ ?_
                  rotate_left
                  ·intro w'
                   go_simp
                   with_reducible rfl
                  rotate_left
                  ·simp only [Act.put,sI_,sZ_,sS_,i64_w,i32_w]
                   rfl
                  refine take_ (i:=8) (N:=some 76) (v:=?_) (a':=?_) #[true,true,true,true,true,true,true,true,true,false,false,false,true,false,true,false,false,false,false,false,false] rfl rfl (take_ofW HT_.out HW_.out (by kernel_rfl)) (fun _ _ _ h=>h) (Or.inl ⟨by rfl,?_⟩) hHeld ?_ ?_
                  rotate_left
                  ·rintro w' ⟨s0,s1,s2,s3,s4,s5,s6,s7,s8,s9⟩
                   go_simp
                   with_reducible rfl
                  rotate_left
                  ·simp only [Act.put,sI_,sZ_,sS_,i64_w,i32_w]
                   rfl
                  refine pure_ (i:=9) (N:=some 77) (v:=?_) (a':=?_) #[true,true,true,true,true,true,true,true,true,true,false,false,true,false,true,false,false,false,false,false,false] rfl rfl (any_of HT_.out (by kernel_rfl)) (fun _ _ _ h=>h) (Or.inl ⟨by rfl,?_⟩) ?_ ?_
                  rotate_left
                  ·intro w'
                   go_simp
                   with_reducible rfl
                  rotate_left
                  ·simp only [Act.put,sI_,sZ_,sS_,i64_w,i32_w]
                   rfl
                  refine pure_ (i:=10) (N:=some 78) (v:=?_) (a':=?_) #[true,true,true,true,true,true,true,true,true,true,true,false,true,false,true,false,false,false,false,false,false] rfl rfl (any_of HT_.out (by kernel_rfl)) (fun _ _ _ h=>h) (Or.inl ⟨by rfl,?_⟩) ?_ ?_
                  rotate_left
                  ·intro w'
                   go_simp
                   with_reducible rfl
                  rotate_left
                  ·simp only [Act.put,sI_,sZ_,sS_,i64_w,i32_w]
                   rfl
                  refine take_ (i:=11) (N:=some 79) (v:=?_) (a':=?_) #[true,true,true,true,true,true,true,true,true,true,true,true,true,false,true,false,false,false,false,false,false] rfl rfl (take_ofW HT_.out HW_.out (by kernel_rfl)) (fun _ _ _ h=>h) (Or.inl ⟨by rfl,?_⟩) hHeld ?_ ?_
                  rotate_left
                  ·rintro w' ⟨s0,s1,s2,s3,s4,s5,s6,s7,s8,s9⟩
                   go_simp
                   with_reducible rfl
                  rotate_left
                  ·simp only [Act.put,sI_,sZ_,sS_,i64_w,i32_w]
                   rfl
                  refine take_ (i:=13) (N:=some 81) (v:=?_) (a':=?_) (tb_ 15 6) rfl rfl (take_ofW HT_.out HW_.out (by kernel_rfl)) (fun _ _ _ h=>h) (Or.inl ⟨by rfl,?_⟩) hHeld ?_ ?_
                  rotate_left
                  ·rintro w' ⟨s0,s1,s2,s3,s4,s5,s6,s7,s8,s9⟩
                   go_simp
                   with_reducible rfl
                  rotate_left
                  ·simp only [Act.put,sI_,sZ_,sS_,i64_w,i32_w]
                   rfl
                  refine pure_ (i:=15) (N:=some 83) (v:=?_) (a':=?_) (tb_ 16 5) rfl rfl (any_of HT_.out (by kernel_rfl)) (fun _ _ _ h=>h) (Or.inl ⟨by rfl,?_⟩) ?_ ?_
                  rotate_left
                  ·intro w'
                   go_simp
                   with_reducible rfl
                  rotate_left
                  ·simp only [Act.put,sI_,sZ_,sS_,i64_w,i32_w]
                   rfl
                  refine pure_ (i:=16) (N:=some 84) (v:=?_) (a':=?_) (tb_ 17 4) rfl rfl (any_of HT_.out (by kernel_rfl)) (fun _ _ _ h=>h) (Or.inl ⟨by rfl,?_⟩) ?_ ?_
                  rotate_left
                  ·intro w'
                   go_simp
                   with_reducible rfl
                  rotate_left
                  ·simp only [Act.put,sI_,sZ_,sS_,i64_w,i32_w]
                   rfl
                  refine take_ (i:=17) (N:=some 85) (v:=?_) (a':=?_) (tb_ 18 3) rfl rfl (take_ofW HT_.out HW_.out (by kernel_rfl)) (fun _ _ _ h=>h) (Or.inl ⟨by rfl,?_⟩) hHeld ?_ ?_
                  rotate_left
                  ·rintro w' ⟨s0,s1,s2,s3,s4,s5,s6,s7,s8,s9⟩
                   go_simp
                   with_reducible rfl
                  rotate_left
                  ·simp only [Act.put,sI_,sZ_,sS_,i64_w,i32_w]
                   rfl
                  refine one_ (i:=18) (N:=some 86) (tb_ 19 2) rfl rfl (one_of HT_.out (by kernel_rfl)) (by decide) (fun K hK=>?_)
                  refine goes_ Tryd.func67 (by kernel_rfl) rfl #[.agg #[.string a0_0,.slice A0_1 l0_1.length c0_1,.slice A0_2 l0_2.length c0_2,.slice (some ad246) l0_3.length c0_3],.slice A250_2 ((rd_T69 l0_3 x5_2).f2).length c250_2] (by rfl) rfl rfl (by (try simp only [mA_,mC_,mN_]);first | done | rfl | (simp only [lD_,lT_];rfl)) ?_
                  with_reducible refine (spec_l9PartsText.calls k2 a0_0 _ _ l0_1 _ _ l0_2 _ _ l0_3 _ _ ((rd_T69 l0_3 x5_2).f2) t252 _ ?side1 ?side2 ?side3 ?side4 ?side5 ?side6 ?side7 ?side8 A49.out).mono ?_
                  (case side1=>repeat (first | exact (Kd.C_below HR0_1.out HB.out) | (with_reducible refine cA_ ?_ _) | (with_reducible refine cN_ ?_ _) | (with_reducible refine cD_ ?_)))
                  (case side2=>exact HC0_1.out)
                  (case side3=>repeat (first | exact (Kd.C_below HR0_2.out HB.out) | (with_reducible refine cA_ ?_ _) | (with_reducible refine cN_ ?_ _) | (with_reducible refine cD_ ?_)))
                  (case side4=>exact HC0_2.out)
                  (case side5=>repeat (first | exact (Kd.C_below HR0_3.out HB.out) | (with_reducible refine cA_ ?_ _) | (with_reducible refine cN_ ?_ _) | (with_reducible refine cD_ ?_)))
                  (case side6=>exact HC0_3.out)
                  (case side7=>repeat (first | exact (Kd.C_below HR251_2.out HB.out) | (with_reducible refine cA_ ?_ _) | (with_reducible refine cN_ ?_ _) | (with_reducible refine cD_ ?_)))
                  (case side8=>exact HC251_2.out)
                  rintro e w53 ⟨rfl,hb⟩
                  refine ⟨_,rfl,?_⟩
                  have n0_:=aM_ (blk_below (g:=gb239) (o:=.cells #[.string a0_0,.slice A0_1 l0_1.length c0_1,.slice A0_2 l0_2.length c0_2,.slice (some ad246) l0_3.length c0_3] 35 (0,0)) (by exact kZ_ BK239) hb)
                  have n1_:=aM_ (bT_ (by exact bZ_ HB) hb)
                  clear BK239
                  clear HB
                  have BK239:=n0_
                  have HB:=n1_
                  clear n0_ n1_
                  (try clear hb)
                  (try clear hb2)
                  (try clear hk)
                  (try clear hi)
                  refine hK.out _ _ ⟨(kC_ BK239.out 0).trans rfl,(kC_ BK239.out 1).trans rfl,(kC_ BK239.out 2).trans rfl,(kC_ BK239.out 3).trans rfl,((HB.out.cell (wL_ w _ hw250_0)).trans hw250_0),((HB.out.cell (wL_ w _ hw250_1)).trans hw250_1),((HB.out.cell (wL_ w _ hw250_2)).trans hw250_2),((HB.out.cell (wL_ w _ hw251_0)).trans hw251_0),((HB.out.cell (wL_ w _ hw251_1)).trans hw251_1),((HB.out.cell (wL_ w _ hw251_2)).trans hw251_2)⟩ (fun hHeld=>?_)
                  clear hK K
                  refine norm_ (a':=?_) ?_ ?_
                  rotate_left
                  ·show Act.put _ (some 86) _ = _
                   simp only [Act.put,sI_,sZ_,sS_,i64_w,i32_w]
                   rfl
                  refine pure_ (i:=19) (N:=some 87) (v:=?_) (a':=?_) (tb_ 20 1) rfl rfl (any_of HT_.out (by kernel_rfl)) (fun _ _ _ h=>h) (Or.inl ⟨by rfl,?_⟩) ?_ ?_
                  rotate_left
                  ·intro w'
                   go_simp
                   with_reducible rfl
                  rotate_left
                  ·simp only [Act.put,sI_,sZ_,sS_,i64_w,i32_w]
                   rfl
                  refine pure_ (i:=20) (N:=some 3) (v:=?_) (a':=?_) (tb_ 21 0) rfl rfl (any_of HT_.out (by kernel_rfl)) (fun _ _ _ h=>h) (Or.inl ⟨by rfl,?_⟩) ?_ ?_
                  rotate_left
                  ·intro w'
                   go_simp
                   with_reducible rfl
                  rotate_left
                  ·simp only [Act.put,sI_,sZ_,sS_,i64_w,i32_w]
                   rfl
                  refine done_ (done_of HT_.out (by kernel_rfl)) ?_
                  try go_wp2
                  go_roundg k2
                  case measure=>have:=HK1.out;have:=HK2.out;omega
                  case rel=>exact ⟨((((x3_2 ++ (⟨#[105,110,100,101,120,32]⟩ : ByteArray)) ++ ((rd_T69 l0_3 x5_2).f0)) ++ (⟨#[32]⟩ : ByteArray)) ++ t252),(wrap64 (x5_2 + 1)),(by first | rfl | (simp;done) | (simp [*];done)),(by first | rfl | (simp;done) | (simp [*];done)),H', ⟨by have:=HK1.out;have:=HK2.out;omega⟩,⟨by exact kZ_ BK239⟩,⟨by exact bZ_ HB⟩⟩
                 ·rw [if_neg c50] at H
                  exact absurd H (by simp)
                ·rw [if_neg c48] at H
                 exact absurd H (by simp)
               ·rw [if_neg c47] at H
                exact absurd H (by simp)
              ·rw [if_neg c46] at H
               exact absurd H (by simp)
            ·rw [if_neg c35] at H
             exact absurd H (by simp)
           ·rw [if_neg c34] at H
            have c34b0 : decide (x5_2 < (l0_3.length : Int)) = false:=decide_eq_false c34
            clear c34
            by_cases c54 : x3_2.size + 1 ≤ 9223372036854775807
            ·rw [if_pos c54] at H
             have c54b0:=eq_true c54
             have c54b1 : decide (x3_2.size + 1 ≤ 9223372036854775807) = true:=decide_eq_true c54
             try have c54b2 : (9223372036854775807 < x3_2.size + 1) = False:=eq_false (Nat.not_lt.2 c54)
             obtain rfl:=Option.some.inj H
             have hcz55_0 : wr.cell? ⟨gb239,0,none⟩ = some (.string a0_0):=(kC_ BK239.out 0).trans rfl
             have hcz55_1 : wr.cell? ⟨gb239,1,none⟩ = some (.slice A0_1 l0_1.length c0_1):=(kC_ BK239.out 1).trans rfl
             have hcz55_2 : wr.cell? ⟨gb239,2,none⟩ = some (.slice A0_2 l0_2.length c0_2):=(kC_ BK239.out 2).trans rfl
             have hcz55_3 : wr.cell? ⟨gb239,3,none⟩ = some (.slice A0_3 l0_3.length c0_3):=(kC_ BK239.out 3).trans rfl
             have hfz55_0:=kF_ BK239.out 0
             have hfz55_1:=kF_ BK239.out 1
             have hfz55_2:=kF_ BK239.out 2
             have hfz55_3:=kF_ BK239.out 3
             go_wp2
             go_ret
             exact ⟨by first | rfl | (simp [errW_none,errW_some] <;> rfl) | (simp [*, errW_none,errW_some] <;> rfl),by exact bZ_ HB⟩
            ·rw [if_neg c54] at H
             exact absurd H (by simp)
        ·rw [if_neg c31] at H
         exact absurd H (by simp)
       ·rw [if_neg c29] at H
        exact absurd H (by simp)
   ·rw [if_neg c5] at H
    exact absurd H (by simp)
  ·rw [if_neg c4] at H
   exact absurd H (by simp)
 ·rw [if_neg c3] at H
  have c3b0 : (t240 == 0) = false:=beq_eq_false_iff_ne.mpr c3
  have c3b1 : (t240 != 0) = true:=bne_iff_ne.mpr c3
  obtain rfl:=Option.some.inj H
  go_enter Tryd.func25,Tryd.ntmps25
  go_wp2_with (first | ((with_reducible refine gate_dst (N:=1) rfl ?_);refine box_event ?hg (N:=1) ?hd (cs:=#[.string a0_0,.slice A0_1 l0_1.length c0_1,.slice A0_2 l0_2.length c0_2,.slice A0_3 l0_3.length c0_3]) (t:=35) ?hr ?_;(case hd=>rfl);(case hg=>rfl);(case hr=>first | (go_simp;done) | (go_simp;rfl));intro gb239 hg w56 hbox hb;have n0_:=aM_ (bT_ (by exact bZ_ HB) hb);have n1_:=aM_ (hbox);have n2_:=aM_ ((by rw [hg];exact (bS_ (by exact bZ_ HB)) : w.heap.size ≤ gb239));have n3_:=aM_ ((by rw [hg];exact (bS_ (by exact bZ_ HB)) : w.heap.size ≤ gb239));clear HB;have HB:=n0_;have BK239:=n1_;have GW239:=n2_;have GE239:=n3_;clear n0_ n1_ n2_ n3_;clear hb hbox hg;have hcz57_0 : w56.cell? ⟨gb239,0,none⟩ = some (.string a0_0):=(kC_ BK239.out 0).trans rfl;have hcz57_1 : w56.cell? ⟨gb239,1,none⟩ = some (.slice A0_1 l0_1.length c0_1):=(kC_ BK239.out 1).trans rfl;have hcz57_2 : w56.cell? ⟨gb239,2,none⟩ = some (.slice A0_2 l0_2.length c0_2):=(kC_ BK239.out 2).trans rfl;have hcz57_3 : w56.cell? ⟨gb239,3,none⟩ = some (.slice A0_3 l0_3.length c0_3):=(kC_ BK239.out 3).trans rfl;have hfz57_0:=kF_ BK239.out 0;have hfz57_1:=kF_ BK239.out 1;have hfz57_2:=kF_ BK239.out 2;have hfz57_3:=kF_ BK239.out 3) | ((with_reducible refine gate_callee (f:=23) rfl ?_);refine goesL_ (some 8) rfl rfl Tryd.func23 (by kernel_rfl) rfl #[.agg #[.string a0_0,.slice A0_1 l0_1.length c0_1,.slice A0_2 l0_2.length c0_2,.slice A0_3 l0_3.length c0_3]] rfl (by (try simp only [mA_,mC_,mN_]);first | done | rfl | (simp only [lD_,lT_];rfl)) ?_;(with_reducible refine (spec_CheckDef.calls k a0_0 _ _ l0_1 _ _ l0_2 _ _ l0_3 t240 _ ?side1 ?side2 ?side3 ?side4 ?side5 ?side6 A2.out).mono ?_);(case side1=>repeat (first | exact (Kd.C_below HR0_1.out HB.out) | (with_reducible refine cA_ ?_ _) | (with_reducible refine cN_ ?_ _) | (with_reducible refine cD_ ?_)));(case side2=>exact HC0_1.out);(case side3=>repeat (first | exact (Kd.C_below HR0_2.out HB.out) | (with_reducible refine cA_ ?_ _) | (with_reducible refine cN_ ?_ _) | (with_reducible refine cD_ ?_)));(case side4=>exact HC0_2.out);(case side5=>repeat (first | exact (Kd.C_below HR0_3.out HB.out) | (with_reducible refine cA_ ?_ _) | (with_reducible refine cN_ ?_ _) | (with_reducible refine cD_ ?_)));(case side6=>exact HC0_3.out);rintro e w58 ⟨rfl,hb⟩;refine ⟨_,rfl,?_⟩;have n0_:=aM_ (blk_below (g:=gb239) (o:=.cells #[.string a0_0,.slice A0_1 l0_1.length c0_1,.slice A0_2 l0_2.length c0_2,.slice A0_3 l0_3.length c0_3] 35 (0,0)) (by exact kZ_ BK239) hb);have n1_:=aM_ (bT_ (by exact bZ_ HB) hb);clear BK239;clear HB;have BK239:=n0_;have HB:=n1_;clear n0_ n1_;(try clear hb);(try clear hb2);(try clear hk);(try clear hi)))
  go_ret
  exact ⟨by first | rfl | (simp [errW_none,errW_some] <;> rfl) | (simp [*, errW_none,errW_some] <;> rfl),by exact bZ_ HB⟩
end Go.Proofs.YtipehkeabnfngaaDoor.PFnExactDefText
