import Derived.Test.YtipehkeabnfngaaDoorZDSPFnExactDefsTextx0
import Derived.Test.YtipehkeabnfngaaDoorZDSPFnExactDefsTextx9
namespace Go.Proofs.YtipehkeabnfngaaDoor.PFnExactDefsText
open Go.RowKit Go.Proofs.YtipehkeabnfngaaDoorW.PrintWords Go.Proofs.YtipehkeabnfngaaDoorW.PrintLast Go.Proofs.YtipehkeabnfngaaDoorW.PrintMore Go.Proofs.YtipehkeabnfngaaDoor.Xtra
attribute [local go_sem] max2_int min2_int max_two min_two max_three min_three max_four min_four str_leq str_gtr str_geq setCell_drewN cell_set2 cell_set3   -- for this text's walks alone
set_option linter.unusedVariables false
set_option linter.unusedSimpArgs false
mutual
def spec_DefText.l0 : Nat → ByteArray → Int → ByteArray → List (S82) → List (S85) → List (S69) → Option (ByteArray)
 | 0,_,_,_,_,_,_=>none
 | k + 1,x3,x4,x259000,x259001,x259002,x259003=>if x4 < (x259001.length : Int) then (if 0 ≤ x4 then (if x3.size + ((rd_T82 x259001 x4).f0).size ≤ 9223372036854775807 then (if (x3 ++ ((rd_T82 x259001 x4).f0)).size + 1 ≤ 9223372036854775807 then ((spec_l9Type.f ((rd_T82 x259001 x4).f1)).bind fun t262=>(if ((x3 ++ ((rd_T82 x259001 x4).f0)) ++ (⟨#[32]⟩ : ByteArray)).size + t262.size ≤ 9223372036854775807 then (if (rd_T82 x259001 x4).f2 = true then (if (((x3 ++ ((rd_T82 x259001 x4).f0)) ++ (⟨#[32]⟩ : ByteArray)) ++ t262).size + 5 ≤ 9223372036854775807 then (if ((((x3 ++ ((rd_T82 x259001 x4).f0)) ++ (⟨#[32]⟩ : ByteArray)) ++ t262) ++ (⟨#[32,110,117,108,108]⟩ : ByteArray)).size + 2 ≤ 9223372036854775807 then (spec_DefText.l0 k (((((x3 ++ ((rd_T82 x259001 x4).f0)) ++ (⟨#[32]⟩ : ByteArray)) ++ t262) ++ (⟨#[32,110,117,108,108]⟩ : ByteArray)) ++ (⟨#[59,32]⟩ : ByteArray)) (wrap64 (x4 + 1)) x259000 x259001 x259002 x259003) else (none)) else (none)) else (if (((x3 ++ ((rd_T82 x259001 x4).f0)) ++ (⟨#[32]⟩ : ByteArray)) ++ t262).size + 2 ≤ 9223372036854775807 then (spec_DefText.l0 k ((((x3 ++ ((rd_T82 x259001 x4).f0)) ++ (⟨#[32]⟩ : ByteArray)) ++ t262) ++ (⟨#[59,32]⟩ : ByteArray)) (wrap64 (x4 + 1)) x259000 x259001 x259002 x259003) else (none))) else (none))) else (none)) else (none)) else (none)) else (if x3.size + 8 ≤ 9223372036854775807 then ((spec_l9PartsText.f k x259000 x259001 x259002 x259003 x259002).bind fun t264=>(if (x3 ++ (⟨#[112,114,105,109,97,114,121,32]⟩ : ByteArray)).size + t264.size ≤ 9223372036854775807 then (spec_DefText.l1 k ((x3 ++ (⟨#[112,114,105,109,97,114,121,32]⟩ : ByteArray)) ++ t264) 0 x259000 x259001 x259002 x259003) else (none))) else (none))
def spec_DefText.l1 : Nat → ByteArray → Int → ByteArray → List (S82) → List (S85) → List (S69) → Option (ByteArray)
 | 0,_,_,_,_,_,_=>none
 | k + 1,x3,x5,x259000,x259001,x259002,x259003=>if x5 < (x259003.length : Int) then (if 0 ≤ x5 then (if (rd_T69 x259003 x5).f1 = true then (if x3.size + 7 ≤ 9223372036854775807 then (if (x3 ++ (⟨#[117,110,105,113,117,101,32]⟩ : ByteArray)).size + ((rd_T69 x259003 x5).f0).size ≤ 9223372036854775807 then (if ((x3 ++ (⟨#[117,110,105,113,117,101,32]⟩ : ByteArray)) ++ ((rd_T69 x259003 x5).f0)).size + 1 ≤ 9223372036854775807 then ((spec_l9PartsText.f k x259000 x259001 x259002 x259003 ((rd_T69 x259003 x5).f2)).bind fun t268=>(if (((x3 ++ (⟨#[117,110,105,113,117,101,32]⟩ : ByteArray)) ++ ((rd_T69 x259003 x5).f0)) ++ (⟨#[32]⟩ : ByteArray)).size + t268.size ≤ 9223372036854775807 then (spec_DefText.l1 k ((((x3 ++ (⟨#[117,110,105,113,117,101,32]⟩ : ByteArray)) ++ ((rd_T69 x259003 x5).f0)) ++ (⟨#[32]⟩ : ByteArray)) ++ t268) (wrap64 (x5 + 1)) x259000 x259001 x259002 x259003) else (none))) else (none)) else (none)) else (none)) else (if x3.size + 6 ≤ 9223372036854775807 then (if (x3 ++ (⟨#[105,110,100,101,120,32]⟩ : ByteArray)).size + ((rd_T69 x259003 x5).f0).size ≤ 9223372036854775807 then (if ((x3 ++ (⟨#[105,110,100,101,120,32]⟩ : ByteArray)) ++ ((rd_T69 x259003 x5).f0)).size + 1 ≤ 9223372036854775807 then ((spec_l9PartsText.f k x259000 x259001 x259002 x259003 ((rd_T69 x259003 x5).f2)).bind fun t271=>(if (((x3 ++ (⟨#[105,110,100,101,120,32]⟩ : ByteArray)) ++ ((rd_T69 x259003 x5).f0)) ++ (⟨#[32]⟩ : ByteArray)).size + t271.size ≤ 9223372036854775807 then (spec_DefText.l1 k ((((x3 ++ (⟨#[105,110,100,101,120,32]⟩ : ByteArray)) ++ ((rd_T69 x259003 x5).f0)) ++ (⟨#[32]⟩ : ByteArray)) ++ t271) (wrap64 (x5 + 1)) x259000 x259001 x259002 x259003) else (none))) else (none)) else (none)) else (none))) else (none)) else (if x3.size + 1 ≤ 9223372036854775807 then (some (x3 ++ (⟨#[125]⟩ : ByteArray))) else (none))
end
def spec_DefText.f (k : Nat) (a0_0 : ByteArray) (l0_1 : List (S82)) (l0_2 : List (S85)) (l0_3 : List (S69)) : Option (ByteArray):=(spec_CheckDef.f k a0_0 l0_1 l0_2 l0_3).bind fun t259=>(if t259 = 0 then (if 6 + a0_0.size ≤ 9223372036854775807 then (if ((⟨#[116,97,98,108,101,32]⟩ : ByteArray) ++ a0_0).size + 3 ≤ 9223372036854775807 then (spec_DefText.l0 k (((⟨#[116,97,98,108,101,32]⟩ : ByteArray) ++ a0_0) ++ (⟨#[32,123,32]⟩ : ByteArray)) 0 a0_0 l0_1 l0_2 l0_3) else (none)) else (none)) else (some (⟨#[]⟩ : ByteArray)))
theorem spec_DefText.mono_l : ∀ k,(∀ y0 y1 y2 y3 y4 y5,LeO (spec_DefText.l0 k y0 y1 y2 y3 y4 y5) (spec_DefText.l0 (k + 1) y0 y1 y2 y3 y4 y5)) ∧ (∀ y0 y1 y2 y3 y4 y5,LeO (spec_DefText.l1 k y0 y1 y2 y3 y4 y5) (spec_DefText.l1 (k + 1) y0 y1 y2 y3 y4 y5))
 | 0=>⟨fun _ _ _ _ _ _ r h=>by simp [spec_DefText.l0] at h,fun _ _ _ _ _ _ r h=>by simp [spec_DefText.l1] at h⟩
 | k + 1=>by
  obtain ⟨ih0,ih1⟩:=spec_DefText.mono_l k
  refine ⟨?_,?_⟩
  ·intro y0 y1 y2 y3 y4 y5
   unfold spec_DefText.l0
   repeat' first
   | (with_reducible exact ih0 _ _ _ _ _ _)
   | (with_reducible exact ih1 _ _ _ _ _ _)
   | (with_reducible exact spec_CheckDef.mono _ _ _ _ _)
   | (with_reducible exact spec_l9PartsText.mono _ _ _ _ _ _)
   | (with_reducible exact LeO.refl _)
   | (with_reducible exact LeO.none _)
   | (with_reducible refine LeO.ite ?_ ?_)
   | (with_reducible refine LeO.bind ?_ (fun _=>?_))
   | exact ih0 _ _ _ _ _ _
   | exact ih1 _ _ _ _ _ _
   | exact spec_CheckDef.mono _ _ _ _ _
   | exact spec_l9PartsText.mono _ _ _ _ _ _
   | exact LeO.none _
   | refine LeO.ite ?_ ?_
   | refine LeO.bind ?_ (fun _=>?_)
  ·intro y0 y1 y2 y3 y4 y5
   unfold spec_DefText.l1
   repeat' first
   | (with_reducible exact ih0 _ _ _ _ _ _)
   | (with_reducible exact ih1 _ _ _ _ _ _)
   | (with_reducible exact spec_CheckDef.mono _ _ _ _ _)
   | (with_reducible exact spec_l9PartsText.mono _ _ _ _ _ _)
   | (with_reducible exact LeO.refl _)
   | (with_reducible exact LeO.none _)
   | (with_reducible refine LeO.ite ?_ ?_)
   | (with_reducible refine LeO.bind ?_ (fun _=>?_))
   | exact ih0 _ _ _ _ _ _
   | exact ih1 _ _ _ _ _ _
   | exact spec_CheckDef.mono _ _ _ _ _
   | exact spec_l9PartsText.mono _ _ _ _ _ _
   | exact LeO.none _
   | refine LeO.ite ?_ ?_
   | refine LeO.bind ?_ (fun _=>?_)
theorem spec_DefText.mono : ∀ a0 a1 a2 a3 k,LeO (spec_DefText.f k a0 a1 a2 a3) (spec_DefText.f (k + 1) a0 a1 a2 a3):=by
 intro a0 a1 a2 a3 k
 obtain ⟨ih0,ih1⟩:=spec_DefText.mono_l k
 unfold spec_DefText.f
 repeat' first
   | (with_reducible exact ih0 _ _ _ _ _ _)
   | (with_reducible exact ih1 _ _ _ _ _ _)
   | (with_reducible exact spec_CheckDef.mono _ _ _ _ _)
   | (with_reducible exact spec_l9PartsText.mono _ _ _ _ _ _)
   | (with_reducible exact LeO.refl _)
   | (with_reducible exact LeO.none _)
   | (with_reducible refine LeO.ite ?_ ?_)
   | (with_reducible refine LeO.bind ?_ (fun _=>?_))
   | exact ih0 _ _ _ _ _ _
   | exact ih1 _ _ _ _ _ _
   | exact spec_CheckDef.mono _ _ _ _ _
   | exact spec_l9PartsText.mono _ _ _ _ _ _
   | exact LeO.none _
   | refine LeO.ite ?_ ?_
   | refine LeO.bind ?_ (fun _=>?_)
def spec_DefText.T7 : Bool × List (List Nat × List Nat):=(true,[([],[]),([],[]),([1],[1]),([],[]),([2,3],[2,3]),([4],[4]),([5],[5]),([0,6],[0,6]),([7],[7]),([],[]),([9],[9]),([],[]),([10,11],[10,11]),([12],[12]),([13],[13]),([14],[14]),([8,15],[8,15]),([16,15,0,1,2,3,4,5,6,7,8,9,10,11,12,13,14,15,16],[0,16])])
def spec_DefText.B7 : List Nat:=[0,0,2,0,14,30,62,127,255,0,512,0,3584,7680,15872,32256,65535,131071]
theorem spec_DefText.tab7 : rtab .any (opsOf Tryd.f25 7) = spec_DefText.T7:=by kernel_rfl
theorem spec_DefText.bits7 : waitsOk spec_DefText.T7.2 spec_DefText.B7 = true:=by kernel_rfl
def spec_DefText.T18 : Bool × List (List Nat × List Nat):=(true,[([],[]),([],[]),([0,1],[0,1]),([],[]),([3],[3]),([],[]),([4,5],[4,5]),([6],[6]),([7],[7]),([2,8],[2,8]),([9],[9]),([],[]),([],[]),([12],[12]),([],[]),([13,14],[13,14]),([15],[15]),([16],[16]),([11,17],[11,17]),([10,18],[10,18]),([19,18,0,1,2,3,4,5,6,7,8,9,10,11,12,13,14,15,16,17,18,19],[0,19])])
def spec_DefText.B18 : List Nat:=[0,0,3,0,8,0,56,120,248,511,1023,0,0,4096,0,28672,61440,126976,260096,524287,1048575]
theorem spec_DefText.tab18 : rtab .any (opsOf Tryd.f25 18) = spec_DefText.T18:=by kernel_rfl
theorem spec_DefText.bits18 : waitsOk spec_DefText.T18.2 spec_DefText.B18 = true:=by kernel_rfl
set_option maxHeartbeats 8000000 in
set_option maxRecDepth 100000 in
theorem spec_DefText.calls (k : Nat) (a0_0 : ByteArray) (A0_1 : Option Addr) (c0_1 : Nat) (l0_1 : List (S82)) (A0_2 : Option Addr) (c0_2 : Nat) (l0_2 : List (S85)) (A0_3 : Option Addr) (c0_3 : Nat) (l0_3 : List (S69)) (r : ByteArray) (w : World) (hr0_1 : Kd.C k82 w A0_1 l0_1.length l0_1) (hc0_1 : l0_1.length ≤ c0_1) (hr0_2 : Kd.C k85 w A0_2 l0_2.length l0_2) (hc0_2 : l0_2.length ≤ c0_2) (hr0_3 : Kd.C k69 w A0_3 l0_3.length l0_3) (hc0_3 : l0_3.length ≤ c0_3) (h : spec_DefText.f k a0_0 l0_1 l0_2 l0_3 = some r) :
  Calls Tryd.prog 25 #[.agg #[.string a0_0,.slice A0_1 l0_1.length c0_1,.slice A0_2 l0_2.length c0_2,.slice A0_3 l0_3.length c0_3]] w fun e w'=>e = .returned (.string r) ∧ Below w.heap.size w w':=by
 have hu35:=Tryd.underlying35
 have HR0_1:=aM_ hr0_1
 have HC0_1:=aM_ hc0_1
 clear hr0_1 hc0_1
 have HR0_2:=aM_ hr0_2
 have HC0_2:=aM_ hc0_2
 clear hr0_2 hc0_2
 have HR0_3:=aM_ hr0_3
 have HC0_3:=aM_ hc0_3
 clear hr0_3 hc0_3
 have HB:=aM_ (Below.refl w.heap.size w)
 have H : ((spec_CheckDef.f k a0_0 l0_1 l0_2 l0_3).bind fun t259=>(if t259 = 0 then (if 6 + a0_0.size ≤ 9223372036854775807 then (if ((⟨#[116,97,98,108,101,32]⟩ : ByteArray) ++ a0_0).size + 3 ≤ 9223372036854775807 then (spec_DefText.l0 k (((⟨#[116,97,98,108,101,32]⟩ : ByteArray) ++ a0_0) ++ (⟨#[32,123,32]⟩ : ByteArray)) 0 a0_0 l0_1 l0_2 l0_3) else (none)) else (none)) else (some (⟨#[]⟩ : ByteArray)))) = some r:=h
 clear h
 replace H:=oB_ H
 obtain ⟨t259,A20,H⟩:=H
 replace H : (if t259 = 0 then (if 6 + a0_0.size ≤ 9223372036854775807 then (if ((⟨#[116,97,98,108,101,32]⟩ : ByteArray) ++ a0_0).size + 3 ≤ 9223372036854775807 then (spec_DefText.l0 k (((⟨#[116,97,98,108,101,32]⟩ : ByteArray) ++ a0_0) ++ (⟨#[32,123,32]⟩ : ByteArray)) 0 a0_0 l0_1 l0_2 l0_3) else (none)) else (none)) else (some (⟨#[]⟩ : ByteArray))) = some r:=H
 have A2:=aM_ A20
 clear A20
 by_cases c3 : t259 = 0
 ·rw [if_pos c3] at H
  have c3b0 : (t259 == 0) = true:=beq_iff_eq.mpr c3
  have c3b1 : (t259 != 0) = false:=bne_eq_false_iff_eq.mpr c3
  clear c3
  by_cases c4 : 6 + a0_0.size ≤ 9223372036854775807
  ·rw [if_pos c4] at H
   have c4b0:=eq_true c4
   have c4b1 : decide (6 + a0_0.size ≤ 9223372036854775807) = true:=decide_eq_true c4
   try have c4b2 : (9223372036854775807 < 6 + a0_0.size) = False:=eq_false (Nat.not_lt.2 c4)
   by_cases c5 : ((⟨#[116,97,98,108,101,32]⟩ : ByteArray) ++ a0_0).size + 3 ≤ 9223372036854775807
   ·rw [if_pos c5] at H
    have c5b0:=eq_true c5
    have c5b1 : decide (((⟨#[116,97,98,108,101,32]⟩ : ByteArray) ++ a0_0).size + 3 ≤ 9223372036854775807) = true:=decide_eq_true c5
    try have c5b2 : (9223372036854775807 < ((⟨#[116,97,98,108,101,32]⟩ : ByteArray) ++ a0_0).size + 3) = False:=eq_false (Nat.not_lt.2 c5)
    have c5b3:=eq_false (Nat.not_lt.2 c5);(repeat rw [ByteArray.size_append] at c5b3);(try rw [show (⟨#[116,97,98,108,101,32]⟩ : ByteArray).size = 6 from rfl] at c5b3)
    have H':=aM_ H
    clear H
    go_enter Tryd.func25,Tryd.ntmps25
    go_wp2_with (first | ((with_reducible refine gate_dst (N:=1) rfl ?_);refine box_event ?hg (N:=1) ?hd (cs:=#[.string a0_0,.slice A0_1 l0_1.length c0_1,.slice A0_2 l0_2.length c0_2,.slice A0_3 l0_3.length c0_3]) (t:=35) ?hr ?_;(case hd=>rfl);(case hg=>rfl);(case hr=>first | (go_simp;done) | (go_simp;rfl));intro gb258 hg w6 hbox hb;have n0_:=aM_ (bT_ (by exact bZ_ HB) hb);have n1_:=aM_ (hbox);have n2_:=aM_ ((by rw [hg];exact (bS_ (by exact bZ_ HB)) : w.heap.size ≤ gb258));have n3_:=aM_ ((by rw [hg];exact (bS_ (by exact bZ_ HB)) : w.heap.size ≤ gb258));clear HB;have HB:=n0_;have BK258:=n1_;have GW258:=n2_;have GE258:=n3_;clear n0_ n1_ n2_ n3_ hb hbox hg;have hcz7_0 : w6.cell? ⟨gb258,0,none⟩ = some (.string a0_0):=(kC_ BK258.out 0).trans rfl;have hcz7_1 : w6.cell? ⟨gb258,1,none⟩ = some (.slice A0_1 l0_1.length c0_1):=(kC_ BK258.out 1).trans rfl;have hcz7_2 : w6.cell? ⟨gb258,2,none⟩ = some (.slice A0_2 l0_2.length c0_2):=(kC_ BK258.out 2).trans rfl;have hcz7_3 : w6.cell? ⟨gb258,3,none⟩ = some (.slice A0_3 l0_3.length c0_3):=(kC_ BK258.out 3).trans rfl;have hfz7_0:=kF_ BK258.out 0;have hfz7_1:=kF_ BK258.out 1;have hfz7_2:=kF_ BK258.out 2;have hfz7_3:=kF_ BK258.out 3) | ((with_reducible refine gate_callee (f:=23) rfl ?_);refine goesL_ (some 8) rfl rfl Tryd.func23 (by kernel_rfl) rfl #[.agg #[.string a0_0,.slice A0_1 l0_1.length c0_1,.slice A0_2 l0_2.length c0_2,.slice A0_3 l0_3.length c0_3]] rfl (by (try simp only [mA_,mC_,mN_]);first | done | rfl | (simp only [lD_,lT_];rfl)) ?_;(with_reducible refine (spec_CheckDef.calls k a0_0 _ _ l0_1 _ _ l0_2 _ _ l0_3 t259 _ ?side1 ?side2 ?side3 ?side4 ?side5 ?side6 A2.out).mono ?_);(case side1=>exact cZ_ HR0_1 HB);(case side2=>exact HC0_1.out);(case side3=>exact cZ_ HR0_2 HB);(case side4=>exact HC0_2.out);(case side5=>exact cZ_ HR0_3 HB);(case side6=>exact HC0_3.out);rintro e w8 ⟨rfl,hb⟩;refine ⟨_,rfl,?_⟩;have n0_:=aM_ (blk_below (g:=gb258) (o:=.cells #[.string a0_0,.slice A0_1 l0_1.length c0_1,.slice A0_2 l0_2.length c0_2,.slice A0_3 l0_3.length c0_3] 35 (0,0)) (by exact kZ_ BK258) hb);have n1_:=aM_ (bT_ (by exact bZ_ HB) hb);clear BK258 HB;have BK258:=n0_;have HB:=n1_;clear n0_ n1_ hb;have hcz9_0 : w8.cell? ⟨gb258,0,none⟩ = some (.string a0_0):=(kC_ BK258.out 0).trans rfl;have hcz9_1 : w8.cell? ⟨gb258,1,none⟩ = some (.slice A0_1 l0_1.length c0_1):=(kC_ BK258.out 1).trans rfl;have hcz9_2 : w8.cell? ⟨gb258,2,none⟩ = some (.slice A0_2 l0_2.length c0_2):=(kC_ BK258.out 2).trans rfl;have hcz9_3 : w8.cell? ⟨gb258,3,none⟩ = some (.slice A0_3 l0_3.length c0_3):=(kC_ BK258.out 3).trans rfl;have hfz9_0:=kF_ BK258.out 0;have hfz9_1:=kF_ BK258.out 1;have hfz9_2:=kF_ BK258.out 2;have hfz9_3:=kF_ BK258.out 3))
    (try simp only [Act.put,sI_,sS_,sZ_])
    go_loopg [3,4] k (fun kq v3 v4 w'=>∃ (x3_1 : ByteArray) (x4_1 : Int),v3 = .string x3_1 ∧ v4 = .int .i64 x4_1 ∧ Aside0 (spec_DefText.l0 kq x3_1 x4_1 a0_0 l0_1 l0_2 l0_3 = some r) ∧ Aside0 (kq ≤ k) ∧ Aside0 (w'.heap[gb258]? = some (.cells #[.string a0_0,(.slice A0_1 l0_1.length c0_1),(.slice A0_2 l0_2.length c0_2),(.slice A0_3 l0_3.length c0_3)] 35 (0,0))) ∧ Aside0 (Below w.heap.size w w'))
    case atStart=>exact ⟨(((⟨#[116,97,98,108,101,32]⟩ : ByteArray) ++ a0_0) ++ (⟨#[32,123,32]⟩ : ByteArray)),(0),(by first | rfl | (simp;done) | (simp [*];done)),(by first | rfl | (simp;done) | (simp [*];done)),H', ⟨Nat.le_refl _⟩,⟨by exact kZ_ BK258⟩,⟨by exact bZ_ HB⟩⟩
    case round =>
     clear H'
     clear c3b0 c3b1 c4 c4b0 c4b1 c4b2 c5 c5b0 c5b1 c5b2 hcz7_0 hcz7_1 hcz7_2 hcz7_3 hcz9_0 hcz9_1 hcz9_2 hcz9_3 hfz7_0 hfz7_1 hfz7_2 hfz7_3 hfz9_0 hfz9_1 hfz9_2 hfz9_3
     obtain ⟨x3_1,x4_1,rfl,rfl,HA,HK1,BK258,HB⟩:=hrel
     cases gk with
     | zero=>exact absurd HA.out (by simp [spec_DefText.l0])
     | succ k1 =>
      have H:=HA.out
      clear HA
      simp only [spec_DefText.l0] at H
      by_cases c10 : x4_1 < (l0_1.length : Int)
      ·rw [if_pos c10] at H
       have c10b0 : decide (x4_1 < (l0_1.length : Int)) = true:=decide_eq_true c10
       clear c10
       by_cases c11 : 0 ≤ x4_1
       ·rw [if_pos c11] at H
        have c11b0 : decide (0 ≤ x4_1) = true:=decide_eq_true c11
        clear c11
        by_cases c12 : x3_1.size + ((rd_T82 l0_1 x4_1).f0).size ≤ 9223372036854775807
        ·rw [if_pos c12] at H
         have c12b0:=eq_true c12
         have c12b1 : decide (x3_1.size + ((rd_T82 l0_1 x4_1).f0).size ≤ 9223372036854775807) = true:=decide_eq_true c12
         try have c12b2 : (9223372036854775807 < x3_1.size + ((rd_T82 l0_1 x4_1).f0).size) = False:=eq_false (Nat.not_lt.2 c12)
         by_cases c13 : (x3_1 ++ ((rd_T82 l0_1 x4_1).f0)).size + 1 ≤ 9223372036854775807
         ·rw [if_pos c13] at H
          have c13b0:=eq_true c13
          have c13b1 : decide ((x3_1 ++ ((rd_T82 l0_1 x4_1).f0)).size + 1 ≤ 9223372036854775807) = true:=decide_eq_true c13
          try have c13b2 : (9223372036854775807 < (x3_1 ++ ((rd_T82 l0_1 x4_1).f0)).size + 1) = False:=eq_false (Nat.not_lt.2 c13)
          have c13b3:=eq_false (Nat.not_lt.2 c13);(repeat rw [ByteArray.size_append] at c13b3)
          replace H:=oB_ H
          obtain ⟨t262,A140,H⟩:=H
          replace H : (if ((x3_1 ++ ((rd_T82 l0_1 x4_1).f0)) ++ (⟨#[32]⟩ : ByteArray)).size + t262.size ≤ 9223372036854775807 then (if (rd_T82 l0_1 x4_1).f2 = true then (if (((x3_1 ++ ((rd_T82 l0_1 x4_1).f0)) ++ (⟨#[32]⟩ : ByteArray)) ++ t262).size + 5 ≤ 9223372036854775807 then (if ((((x3_1 ++ ((rd_T82 l0_1 x4_1).f0)) ++ (⟨#[32]⟩ : ByteArray)) ++ t262) ++ (⟨#[32,110,117,108,108]⟩ : ByteArray)).size + 2 ≤ 9223372036854775807 then (spec_DefText.l0 k1 (((((x3_1 ++ ((rd_T82 l0_1 x4_1).f0)) ++ (⟨#[32]⟩ : ByteArray)) ++ t262) ++ (⟨#[32,110,117,108,108]⟩ : ByteArray)) ++ (⟨#[59,32]⟩ : ByteArray)) (wrap64 (x4_1 + 1)) a0_0 l0_1 l0_2 l0_3) else (none)) else (none)) else (if (((x3_1 ++ ((rd_T82 l0_1 x4_1).f0)) ++ (⟨#[32]⟩ : ByteArray)) ++ t262).size + 2 ≤ 9223372036854775807 then (spec_DefText.l0 k1 ((((x3_1 ++ ((rd_T82 l0_1 x4_1).f0)) ++ (⟨#[32]⟩ : ByteArray)) ++ t262) ++ (⟨#[59,32]⟩ : ByteArray)) (wrap64 (x4_1 + 1)) a0_0 l0_1 l0_2 l0_3) else (none))) else (none)) = some r:=H
          have A14:=aM_ A140
          clear A140
          by_cases c15 : ((x3_1 ++ ((rd_T82 l0_1 x4_1).f0)) ++ (⟨#[32]⟩ : ByteArray)).size + t262.size ≤ 9223372036854775807
          ·rw [if_pos c15] at H
           have c15b0:=eq_true c15
           have c15b1 : decide (((x3_1 ++ ((rd_T82 l0_1 x4_1).f0)) ++ (⟨#[32]⟩ : ByteArray)).size + t262.size ≤ 9223372036854775807) = true:=decide_eq_true c15
           try have c15b2 : (9223372036854775807 < ((x3_1 ++ ((rd_T82 l0_1 x4_1).f0)) ++ (⟨#[32]⟩ : ByteArray)).size + t262.size) = False:=eq_false (Nat.not_lt.2 c15)
           have c15b3:=eq_false (Nat.not_lt.2 c15);(repeat rw [ByteArray.size_append] at c15b3);(try rw [show (⟨#[32]⟩ : ByteArray).size = 1 from rfl] at c15b3)
           obtain ⟨bq16,hbq16⟩ : ∃ b_ : Bool,b_ = ((rd_T82 l0_1 x4_1).f2):=⟨_,rfl⟩
           replace H : (if bq16 = true then (if (((x3_1 ++ ((rd_T82 l0_1 x4_1).f0)) ++ (⟨#[32]⟩ : ByteArray)) ++ t262).size + 5 ≤ 9223372036854775807 then (if ((((x3_1 ++ ((rd_T82 l0_1 x4_1).f0)) ++ (⟨#[32]⟩ : ByteArray)) ++ t262) ++ (⟨#[32,110,117,108,108]⟩ : ByteArray)).size + 2 ≤ 9223372036854775807 then (spec_DefText.l0 k1 (((((x3_1 ++ ((rd_T82 l0_1 x4_1).f0)) ++ (⟨#[32]⟩ : ByteArray)) ++ t262) ++ (⟨#[32,110,117,108,108]⟩ : ByteArray)) ++ (⟨#[59,32]⟩ : ByteArray)) (wrap64 (x4_1 + 1)) a0_0 l0_1 l0_2 l0_3) else (none)) else (none)) else (if (((x3_1 ++ ((rd_T82 l0_1 x4_1).f0)) ++ (⟨#[32]⟩ : ByteArray)) ++ t262).size + 2 ≤ 9223372036854775807 then (spec_DefText.l0 k1 ((((x3_1 ++ ((rd_T82 l0_1 x4_1).f0)) ++ (⟨#[32]⟩ : ByteArray)) ++ t262) ++ (⟨#[59,32]⟩ : ByteArray)) (wrap64 (x4_1 + 1)) a0_0 l0_1 l0_2 l0_3) else (none))) = some r:=by rw [← hbq16] at H;exact H
           have Nbq16:=aM_ hbq16
           clear hbq16
           by_cases c17 : bq16 = true
           ·subst c17
            have H1 : (if (((x3_1 ++ ((rd_T82 l0_1 x4_1).f0)) ++ (⟨#[32]⟩ : ByteArray)) ++ t262).size + 5 ≤ 9223372036854775807 then (if ((((x3_1 ++ ((rd_T82 l0_1 x4_1).f0)) ++ (⟨#[32]⟩ : ByteArray)) ++ t262) ++ (⟨#[32,110,117,108,108]⟩ : ByteArray)).size + 2 ≤ 9223372036854775807 then (spec_DefText.l0 k1 (((((x3_1 ++ ((rd_T82 l0_1 x4_1).f0)) ++ (⟨#[32]⟩ : ByteArray)) ++ t262) ++ (⟨#[32,110,117,108,108]⟩ : ByteArray)) ++ (⟨#[59,32]⟩ : ByteArray)) (wrap64 (x4_1 + 1)) a0_0 l0_1 l0_2 l0_3) else (none)) else (none)) = some r:=by rw [if_pos rfl] at H;exact H
            clear H
            have H:=H1
            clear H1
            by_cases c18 : (((x3_1 ++ ((rd_T82 l0_1 x4_1).f0)) ++ (⟨#[32]⟩ : ByteArray)) ++ t262).size + 5 ≤ 9223372036854775807
            ·rw [if_pos c18] at H
             have c18b0:=eq_true c18
             have c18b1 : decide ((((x3_1 ++ ((rd_T82 l0_1 x4_1).f0)) ++ (⟨#[32]⟩ : ByteArray)) ++ t262).size + 5 ≤ 9223372036854775807) = true:=decide_eq_true c18
             try have c18b2 : (9223372036854775807 < (((x3_1 ++ ((rd_T82 l0_1 x4_1).f0)) ++ (⟨#[32]⟩ : ByteArray)) ++ t262).size + 5) = False:=eq_false (Nat.not_lt.2 c18)
             have c18b3:=eq_false (Nat.not_lt.2 c18);(repeat rw [ByteArray.size_append] at c18b3);(try rw [show (⟨#[32]⟩ : ByteArray).size = 1 from rfl] at c18b3)
             by_cases c19 : ((((x3_1 ++ ((rd_T82 l0_1 x4_1).f0)) ++ (⟨#[32]⟩ : ByteArray)) ++ t262) ++ (⟨#[32,110,117,108,108]⟩ : ByteArray)).size + 2 ≤ 9223372036854775807
             ·rw [if_pos c19] at H
              have c19b0:=eq_true c19
              have c19b1 : decide (((((x3_1 ++ ((rd_T82 l0_1 x4_1).f0)) ++ (⟨#[32]⟩ : ByteArray)) ++ t262) ++ (⟨#[32,110,117,108,108]⟩ : ByteArray)).size + 2 ≤ 9223372036854775807) = true:=decide_eq_true c19
              try have c19b2 : (9223372036854775807 < ((((x3_1 ++ ((rd_T82 l0_1 x4_1).f0)) ++ (⟨#[32]⟩ : ByteArray)) ++ t262) ++ (⟨#[32,110,117,108,108]⟩ : ByteArray)).size + 2) = False:=eq_false (Nat.not_lt.2 c19)
              have c19b3:=eq_false (Nat.not_lt.2 c19);(repeat rw [ByteArray.size_append] at c19b3);(try rw [show (⟨#[32,110,117,108,108]⟩ : ByteArray).size = 5 from rfl] at c19b3);(try rw [show (⟨#[32]⟩ : ByteArray).size = 1 from rfl] at c19b3)
              have H':=aM_ H
              clear H
              have hcz20_0 : wr.cell? ⟨gb258,0,none⟩ = some (.string a0_0):=(kC_ BK258.out 0).trans rfl
              have hcz20_1 : wr.cell? ⟨gb258,1,none⟩ = some (.slice A0_1 l0_1.length c0_1):=(kC_ BK258.out 1).trans rfl
              have hcz20_2 : wr.cell? ⟨gb258,2,none⟩ = some (.slice A0_2 l0_2.length c0_2):=(kC_ BK258.out 2).trans rfl
              have hcz20_3 : wr.cell? ⟨gb258,3,none⟩ = some (.slice A0_3 l0_3.length c0_3):=(kC_ BK258.out 3).trans rfl
              have hfz20_0:=kF_ BK258.out 0
              have hfz20_1:=kF_ BK258.out 1
              have hfz20_2:=kF_ BK258.out 2
              have hfz20_3:=kF_ BK258.out 3
              try go_wp2
              have n0_:=aM_ (kD_ BK258.out)
              have n1_:=aM_ (bD_ HB.out)
              clear BK258 HB
              have BK258:=n0_
              have HB:=n1_
              clear n0_ n1_
              have p260 : 0 ≤ (x4_1 : Int):=oT_ (by first | (with_reducible assumption) | assumption)
              have q260 : x4_1 < (l0_1.length : Int):=oT_ (by first | (with_reducible assumption) | assumption)
              obtain ⟨ad260,e260,hx260_0,hx260_1,hx260_2⟩:=at_T82 HR0_1.out x4_1 p260 q260
              have hw260_2:=hx260_2
              have hw260_1:=hx260_1
              have hw260_0:=hx260_0
              (try rw [← Nbq16.out] at hx260_2)
              (try rw [← Nbq16.out] at hw260_2)
              cases e260
              replace hx260_0:=(HB.out.cell (wL_ w _ hx260_0)).trans hx260_0
              replace hx260_1:=(HB.out.cell (wL_ w _ hx260_1)).trans hx260_1
              replace hx260_2:=(HB.out.cell (wL_ w _ hx260_2)).trans hx260_2
              replace p260:=eq_true p260
              replace q260:=eq_true q260
              have p261 : 0 ≤ (x4_1 : Int):=oT_ (by first | (with_reducible assumption) | assumption)
              have q261 : x4_1 < (l0_1.length : Int):=oT_ (by first | (with_reducible assumption) | assumption)
              obtain ⟨ad261,e261,hx261_0,hx261_1,hx261_2⟩:=at_T82 HR0_1.out x4_1 p261 q261
              have hw261_2:=hx261_2
              have hw261_1:=hx261_1
              have hw261_0:=hx261_0
              (try rw [← Nbq16.out] at hx261_2)
              (try rw [← Nbq16.out] at hw261_2)
              obtain rfl : ad260 = ad261:=(by injection e261)
              replace hx261_0:=(HB.out.cell (wL_ w _ hx261_0)).trans hx261_0
              replace hx261_1:=(HB.out.cell (wL_ w _ hx261_1)).trans hx261_1
              replace hx261_2:=(HB.out.cell (wL_ w _ hx261_2)).trans hx261_2
              replace p261:=eq_true p261
              replace q261:=eq_true q261
              refine start_ (n:=18) (S:=fun w'=>w'.cell? ⟨gb258,0,none⟩ = some (.string a0_0) ∧ w'.cell? ⟨gb258,1,none⟩ = some (.slice (some ad260) l0_1.length c0_1) ∧ w'.cell? ⟨gb258,2,none⟩ = some (.slice A0_2 l0_2.length c0_2) ∧ w'.cell? ⟨gb258,3,none⟩ = some (.slice A0_3 l0_3.length c0_3) ∧ w'.cell? (ad260.add ((x4_1).toNat * 3)) = some (.string ((rd_T82 l0_1 x4_1).f0)) ∧ w'.cell? ⟨(ad260.add ((x4_1).toNat * 3)).block,(ad260.add ((x4_1).toNat * 3)).off + 1,none⟩ = some (.int .i64 ((rd_T82 l0_1 x4_1).f1)) ∧ w'.cell? ⟨(ad260.add ((x4_1).toNat * 3)).block,(ad260.add ((x4_1).toNat * 3)).off + 2,none⟩ = some (.bool true) ∧ w'.cell? (ad260.add ((x4_1).toNat * 3)) = some (.string ((rd_T82 l0_1 x4_1).f0)) ∧ w'.cell? ⟨(ad260.add ((x4_1).toNat * 3)).block,(ad260.add ((x4_1).toNat * 3)).off + 1,none⟩ = some (.int .i64 ((rd_T82 l0_1 x4_1).f1)) ∧ w'.cell? ⟨(ad260.add ((x4_1).toNat * 3)).block,(ad260.add ((x4_1).toNat * 3)).off + 2,none⟩ = some (.bool true)) (ds:=[]) (tb_ 0 18) (by kernel_rfl) rfl rfl ⟨(kC_ BK258.out 0).trans rfl,(kC_ BK258.out 1).trans rfl,(kC_ BK258.out 2).trans rfl,(kC_ BK258.out 3).trans rfl,((HB.out.cell (wL_ w _ hw260_0)).trans hw260_0),((HB.out.cell (wL_ w _ hw260_1)).trans hw260_1),((HB.out.cell (wL_ w _ hw260_2)).trans hw260_2),((HB.out.cell (wL_ w _ hw261_0)).trans hw261_0),((HB.out.cell (wL_ w _ hw261_1)).trans hw261_1),((HB.out.cell (wL_ w _ hw261_2)).trans hw261_2)⟩ (fun hHeld=>?_);refine with_tabW spec_DefText.tab7 spec_DefText.bits7 (fun HT_ HW_=>?_)
              generalize wr.drew = w21 at BK258 HB hx260_0 hx260_1 hx260_2 hx261_0 hx261_1 hx261_2 hHeld ⊢
              refine pure_ (i:=0) (N:=some 21) (v:=?_) (a':=?_) (tb_ 1 17) rfl rfl (any_of HT_.out (by kernel_rfl)) (fun _ _ _ h=>h) (Or.inl ⟨by rfl,?_⟩) ?_ ?_
              rotate_left
              ·intro w'
               go_simp
               with_reducible rfl
              rotate_left
              ·simp only [Act.put,sI_,sZ_,sS_,i64_w,i32_w]
               rfl
              refine pure_ (i:=1) (N:=some 22) (v:=?_) (a':=?_) (tb_ 2 16) rfl rfl (any_of HT_.out (by kernel_rfl)) (fun _ _ _ h=>h) (Or.inl ⟨by rfl,?_⟩) ?_ ?_
              rotate_left
              ·intro w'
               go_simp
               with_reducible rfl
              rotate_left
              ·simp only [Act.put,sI_,sZ_,sS_,i64_w,i32_w]
               rfl
              refine pure_ (i:=3) (N:=some 24) (v:=?_) (a':=?_) #[true,true,false,true,false,false,false,false,false,false,false,false,false,false,false,false,false,false] rfl rfl (any_of HT_.out (by kernel_rfl)) (fun _ _ _ h=>h) (Or.inl ⟨by rfl,?_⟩) ?_ ?_
              rotate_left
              ·intro w'
               go_simp
               with_reducible rfl
              rotate_left
              ·simp only [Act.put,sI_,sZ_,sS_,i64_w,i32_w]
               rfl
              refine pure_ (i:=9) (N:=some 30) (v:=?_) (a':=?_) #[true,true,false,true,false,false,false,false,false,true,false,false,false,false,false,false,false,false] rfl rfl (any_of HT_.out (by kernel_rfl)) (fun _ _ _ h=>h) (Or.inl ⟨by rfl,?_⟩) ?_ ?_
              rotate_left
              ·intro w'
               go_simp
               with_reducible rfl
              rotate_left
              ·simp only [Act.put,sI_,sZ_,sS_,i64_w,i32_w]
               rfl
              refine pure_ (i:=11) (N:=some 32) (v:=?_) (a':=?_) #[true,true,false,true,false,false,false,false,false,true,false,true,false,false,false,false,false,false] rfl rfl (any_of HT_.out (by kernel_rfl)) (fun _ _ _ h=>h) (Or.inl ⟨by rfl,?_⟩) ?_ ?_
              rotate_left
              ·intro w'
               go_simp
               with_reducible rfl
              rotate_left
              ·simp only [Act.put,sI_,sZ_,sS_,i64_w,i32_w]
               rfl
              refine take_ (i:=2) (N:=some 23) (v:=?_) (a':=?_) #[true,true,true,true,false,false,false,false,false,true,false,true,false,false,false,false,false,false] rfl rfl (take_ofW HT_.out HW_.out (by kernel_rfl)) (fun _ _ _ h=>h) (Or.inl ⟨by rfl,?_⟩) hHeld ?_ ?_
              rotate_left
              ·rintro w' ⟨s0,s1,s2,s3,s4,s5,s6,s7,s8,s9⟩
               go_simp
               with_reducible rfl
              rotate_left
              ·simp only [Act.put,sI_,sZ_,sS_,i64_w,i32_w]
               rfl
              refine pure_ (i:=4) (N:=some 25) (v:=?_) (a':=?_) #[true,true,true,true,true,false,false,false,false,true,false,true,false,false,false,false,false,false] rfl rfl (any_of HT_.out (by kernel_rfl)) (fun _ _ _ h=>h) (Or.inl ⟨by rfl,?_⟩) ?_ ?_
              rotate_left
              ·intro w'
               go_simp
               with_reducible rfl
              rotate_left
              ·simp only [Act.put,sI_,sZ_,sS_,i64_w,i32_w]
               rfl
              refine pure_ (i:=5) (N:=some 26) (v:=?_) (a':=?_) #[true,true,true,true,true,true,false,false,false,true,false,true,false,false,false,false,false,false] rfl rfl (any_of HT_.out (by kernel_rfl)) (fun _ _ _ h=>h) (Or.inl ⟨by rfl,?_⟩) ?_ ?_
              rotate_left
              ·intro w'
               go_simp
               with_reducible rfl
              rotate_left
              ·simp only [Act.put,sI_,sZ_,sS_,i64_w,i32_w]
               rfl
              refine take_ (i:=6) (N:=some 27) (v:=?_) (a':=?_) #[true,true,true,true,true,true,true,false,false,true,false,true,false,false,false,false,false,false] rfl rfl (take_ofW HT_.out HW_.out (by kernel_rfl)) (fun _ _ _ h=>h) (Or.inl ⟨by rfl,?_⟩) hHeld ?_ ?_
              rotate_left
              ·rintro w' ⟨s0,s1,s2,s3,s4,s5,s6,s7,s8,s9⟩
               go_simp
               with_reducible rfl
              rotate_left
              ·simp only [Act.put,sI_,sZ_,sS_,i64_w,i32_w]
               rfl
              refine pure_ (i:=7) (N:=some 28) (v:=?_) (a':=?_) #[true,true,true,true,true,true,true,true,false,true,false,true,false,false,false,false,false,false] rfl rfl (any_of HT_.out (by kernel_rfl)) (fun _ _ _ h=>h) (Or.inl ⟨by rfl,?_⟩) ?_ ?_
              rotate_left
              ·intro w'
               go_simp
               with_reducible rfl
              rotate_left
              ·simp only [Act.put,sI_,sZ_,sS_,i64_w,i32_w]
               rfl
              refine pure_ (i:=8) (N:=some 29) (v:=?_) (a':=?_) #[true,true,true,true,true,true,true,true,true,true,false,true,false,false,false,false,false,false] rfl rfl (any_of HT_.out (by kernel_rfl)) (fun _ _ _ h=>h) (Or.inl ⟨by rfl,?_⟩) ?_ ?_
              rotate_left
              ·intro w'
               go_simp
               with_reducible rfl
              rotate_left
              ·simp only [Act.put,sI_,sZ_,sS_,i64_w,i32_w]
               rfl
              refine take_ (i:=10) (N:=some 31) (v:=?_) (a':=?_) (tb_ 12 6) rfl rfl (take_ofW HT_.out HW_.out (by kernel_rfl)) (fun _ _ _ h=>h) (Or.inl ⟨by rfl,?_⟩) hHeld ?_ ?_
              rotate_left
              ·rintro w' ⟨s0,s1,s2,s3,s4,s5,s6,s7,s8,s9⟩
               go_simp
               with_reducible rfl
              rotate_left
              ·simp only [Act.put,sI_,sZ_,sS_,i64_w,i32_w]
               rfl
              refine pure_ (i:=12) (N:=some 33) (v:=?_) (a':=?_) (tb_ 13 5) rfl rfl (any_of HT_.out (by kernel_rfl)) (fun _ _ _ h=>h) (Or.inl ⟨by rfl,?_⟩) ?_ ?_
              rotate_left
              ·intro w'
               go_simp
               with_reducible rfl
              rotate_left
              ·simp only [Act.put,sI_,sZ_,sS_,i64_w,i32_w]
               rfl
              refine pure_ (i:=13) (N:=some 34) (v:=?_) (a':=?_) (tb_ 14 4) rfl rfl (any_of HT_.out (by kernel_rfl)) (fun _ _ _ h=>h) (Or.inl ⟨by rfl,?_⟩) ?_ ?_
              rotate_left
              ·intro w'
               go_simp
               with_reducible rfl
              rotate_left
              ·simp only [Act.put,sI_,sZ_,sS_,i64_w,i32_w]
               rfl
              refine take_ (i:=14) (N:=some 35) (v:=?_) (a':=?_) (tb_ 15 3) rfl rfl (take_ofW HT_.out HW_.out (by kernel_rfl)) (fun _ _ _ h=>h) (Or.inl ⟨by rfl,?_⟩) hHeld ?_ ?_
              rotate_left
              ·rintro w' ⟨s0,s1,s2,s3,s4,s5,s6,s7,s8,s9⟩
               go_simp
               with_reducible rfl
              rotate_left
              ·simp only [Act.put,sI_,sZ_,sS_,i64_w,i32_w]
               rfl
              refine one_ (i:=15) (N:=some 36) (tb_ 16 2) rfl rfl (one_of HT_.out (by kernel_rfl)) (by decide) (fun K hK=>?_)
              refine goes_ Tryd.func66 (by kernel_rfl) rfl #[.int .i64 ((rd_T82 l0_1 x4_1).f1)] (by rfl) rfl rfl (by (try simp only [mA_,mC_,mN_]);first | done | rfl | (simp only [lD_,lT_];rfl)) ?_
              with_reducible refine (spec_l9Type.calls ((rd_T82 l0_1 x4_1).f1) t262 _ A14.out).mono ?_
              rintro e w22 ⟨rfl,hb⟩
              refine ⟨_,rfl,?_⟩
              have n0_:=aM_ (blk_below (g:=gb258) (o:=.cells #[.string a0_0,.slice (some ad260) l0_1.length c0_1,.slice A0_2 l0_2.length c0_2,.slice A0_3 l0_3.length c0_3] 35 (0,0)) (by exact kZ_ BK258) hb)
              have n1_:=aM_ (bT_ (by exact bZ_ HB) hb)
              clear BK258 HB
              have BK258:=n0_
              have HB:=n1_
              clear n0_ n1_ hb
              skip
              skip
              skip
              refine hK.out _ _ ⟨(kC_ BK258.out 0).trans rfl,(kC_ BK258.out 1).trans rfl,(kC_ BK258.out 2).trans rfl,(kC_ BK258.out 3).trans rfl,((HB.out.cell (wL_ w _ hw260_0)).trans hw260_0),((HB.out.cell (wL_ w _ hw260_1)).trans hw260_1),((HB.out.cell (wL_ w _ hw260_2)).trans hw260_2),((HB.out.cell (wL_ w _ hw261_0)).trans hw261_0),((HB.out.cell (wL_ w _ hw261_1)).trans hw261_1),((HB.out.cell (wL_ w _ hw261_2)).trans hw261_2)⟩ (fun hHeld=>?_)
              clear hK K
              refine norm_ (a':=?_) ?_ ?_
              rotate_left
              ·show Act.put _ (some 36) _ = _
               simp only [Act.put,sI_,sZ_,sS_,i64_w,i32_w]
               rfl
              refine pure_ (i:=16) (N:=some 37) (v:=?_) (a':=?_) (tb_ 17 1) rfl rfl (any_of HT_.out (by kernel_rfl)) (fun _ _ _ h=>h) (Or.inl ⟨by rfl,?_⟩) ?_ ?_
              rotate_left
              ·intro w'
               go_simp
               with_reducible rfl
              rotate_left
              ·simp only [Act.put,sI_,sZ_,sS_,i64_w,i32_w]
               rfl
              refine pure_ (i:=17) (N:=some 3) (v:=?_) (a':=?_) (tb_ 18 0) rfl rfl (any_of HT_.out (by kernel_rfl)) (fun _ _ _ h=>h) (Or.inl ⟨by rfl,?_⟩) ?_ ?_
              rotate_left
              ·intro w'
               go_simp
               with_reducible rfl
              rotate_left
              ·simp only [Act.put,sI_,sZ_,sS_,i64_w,i32_w]
               rfl
              refine done_ (done_of HT_.out (by kernel_rfl)) ?_
              have hcz23_0 : w22.cell? ⟨gb258,0,none⟩ = some (.string a0_0):=(kC_ BK258.out 0).trans rfl
              have hcz23_1 : w22.cell? ⟨gb258,1,none⟩ = some (.slice (some ad260) l0_1.length c0_1):=(kC_ BK258.out 1).trans rfl
              have hcz23_2 : w22.cell? ⟨gb258,2,none⟩ = some (.slice A0_2 l0_2.length c0_2):=(kC_ BK258.out 2).trans rfl
              have hcz23_3 : w22.cell? ⟨gb258,3,none⟩ = some (.slice A0_3 l0_3.length c0_3):=(kC_ BK258.out 3).trans rfl
              have hfz23_0:=kF_ BK258.out 0
              have hfz23_1:=kF_ BK258.out 1
              have hfz23_2:=kF_ BK258.out 2
              have hfz23_3:=kF_ BK258.out 3
              have p263 : 0 ≤ (x4_1 : Int):=oT_ (by first | (with_reducible assumption) | assumption)
              have q263 : x4_1 < (l0_1.length : Int):=oT_ (by first | (with_reducible assumption) | assumption)
              obtain ⟨ad263,e263,hx263_0,hx263_1,hx263_2⟩:=at_T82 HR0_1.out x4_1 p263 q263
              (try rw [← Nbq16.out] at hx263_2)
              obtain rfl : ad260 = ad263:=(by injection e263)
              replace hx263_0:=(HB.out.cell (wL_ w _ hx263_0)).trans hx263_0
              replace hx263_1:=(HB.out.cell (wL_ w _ hx263_1)).trans hx263_1
              replace hx263_2:=(HB.out.cell (wL_ w _ hx263_2)).trans hx263_2
              replace p263:=eq_true p263
              replace q263:=eq_true q263
              try go_wp2
              go_roundg k1
              case measure=>have:=HK1.out;omega
              case rel=>exact ⟨(((((x3_1 ++ ((rd_T82 l0_1 x4_1).f0)) ++ (⟨#[32]⟩ : ByteArray)) ++ t262) ++ (⟨#[32,110,117,108,108]⟩ : ByteArray)) ++ (⟨#[59,32]⟩ : ByteArray)),(wrap64 (x4_1 + 1)),(by first | rfl | (simp;done) | (simp [*];done)),(by first | rfl | (simp;done) | (simp [*];done)),H', ⟨by have:=HK1.out;omega⟩,⟨by exact kZ_ BK258⟩,⟨by exact bZ_ HB⟩⟩
             ·rw [if_neg c19] at H
              exact absurd H (by simp)
            ·rw [if_neg c18] at H
             exact absurd H (by simp)
           ·replace c17:=Bool.eq_false_iff.mpr c17
            subst c17
            have H1 : (if (((x3_1 ++ ((rd_T82 l0_1 x4_1).f0)) ++ (⟨#[32]⟩ : ByteArray)) ++ t262).size + 2 ≤ 9223372036854775807 then (spec_DefText.l0 k1 ((((x3_1 ++ ((rd_T82 l0_1 x4_1).f0)) ++ (⟨#[32]⟩ : ByteArray)) ++ t262) ++ (⟨#[59,32]⟩ : ByteArray)) (wrap64 (x4_1 + 1)) a0_0 l0_1 l0_2 l0_3) else (none)) = some r:=by rw [if_neg (show ¬ (false = true) by decide)] at H;exact H
            clear H
            have H:=H1
            clear H1
            by_cases c24 : (((x3_1 ++ ((rd_T82 l0_1 x4_1).f0)) ++ (⟨#[32]⟩ : ByteArray)) ++ t262).size + 2 ≤ 9223372036854775807
            ·rw [if_pos c24] at H
             have c24b0:=eq_true c24
             have c24b1 : decide ((((x3_1 ++ ((rd_T82 l0_1 x4_1).f0)) ++ (⟨#[32]⟩ : ByteArray)) ++ t262).size + 2 ≤ 9223372036854775807) = true:=decide_eq_true c24
             try have c24b2 : (9223372036854775807 < (((x3_1 ++ ((rd_T82 l0_1 x4_1).f0)) ++ (⟨#[32]⟩ : ByteArray)) ++ t262).size + 2) = False:=eq_false (Nat.not_lt.2 c24)
             have c24b3:=eq_false (Nat.not_lt.2 c24);(repeat rw [ByteArray.size_append] at c24b3);(try rw [show (⟨#[32]⟩ : ByteArray).size = 1 from rfl] at c24b3)
             have H':=aM_ H
             clear H
             have hcz25_0 : wr.cell? ⟨gb258,0,none⟩ = some (.string a0_0):=(kC_ BK258.out 0).trans rfl
             have hcz25_1 : wr.cell? ⟨gb258,1,none⟩ = some (.slice A0_1 l0_1.length c0_1):=(kC_ BK258.out 1).trans rfl
             have hcz25_2 : wr.cell? ⟨gb258,2,none⟩ = some (.slice A0_2 l0_2.length c0_2):=(kC_ BK258.out 2).trans rfl
             have hcz25_3 : wr.cell? ⟨gb258,3,none⟩ = some (.slice A0_3 l0_3.length c0_3):=(kC_ BK258.out 3).trans rfl
             have hfz25_0:=kF_ BK258.out 0
             have hfz25_1:=kF_ BK258.out 1
             have hfz25_2:=kF_ BK258.out 2
             have hfz25_3:=kF_ BK258.out 3
             try go_wp2
             have n0_:=aM_ (kD_ BK258.out)
             have n1_:=aM_ (bD_ HB.out)
             clear BK258 HB
             have BK258:=n0_
             have HB:=n1_
             clear n0_ n1_
             have p260 : 0 ≤ (x4_1 : Int):=oT_ (by first | (with_reducible assumption) | assumption)
             have q260 : x4_1 < (l0_1.length : Int):=oT_ (by first | (with_reducible assumption) | assumption)
             obtain ⟨ad260,e260,hx260_0,hx260_1,hx260_2⟩:=at_T82 HR0_1.out x4_1 p260 q260
             have hw260_2:=hx260_2
             have hw260_1:=hx260_1
             have hw260_0:=hx260_0
             (try rw [← Nbq16.out] at hx260_2)
             (try rw [← Nbq16.out] at hw260_2)
             cases e260
             replace hx260_0:=(HB.out.cell (wL_ w _ hx260_0)).trans hx260_0
             replace hx260_1:=(HB.out.cell (wL_ w _ hx260_1)).trans hx260_1
             replace hx260_2:=(HB.out.cell (wL_ w _ hx260_2)).trans hx260_2
             replace p260:=eq_true p260
             replace q260:=eq_true q260
             have p261 : 0 ≤ (x4_1 : Int):=oT_ (by first | (with_reducible assumption) | assumption)
             have q261 : x4_1 < (l0_1.length : Int):=oT_ (by first | (with_reducible assumption) | assumption)
             obtain ⟨ad261,e261,hx261_0,hx261_1,hx261_2⟩:=at_T82 HR0_1.out x4_1 p261 q261
             have hw261_2:=hx261_2
             have hw261_1:=hx261_1
             have hw261_0:=hx261_0
             (try rw [← Nbq16.out] at hx261_2)
             (try rw [← Nbq16.out] at hw261_2)
             obtain rfl : ad260 = ad261:=(by injection e261)
             replace hx261_0:=(HB.out.cell (wL_ w _ hx261_0)).trans hx261_0
             replace hx261_1:=(HB.out.cell (wL_ w _ hx261_1)).trans hx261_1
             replace hx261_2:=(HB.out.cell (wL_ w _ hx261_2)).trans hx261_2
             replace p261:=eq_true p261
             replace q261:=eq_true q261
             refine start_ (n:=18) (S:=fun w'=>w'.cell? ⟨gb258,0,none⟩ = some (.string a0_0) ∧ w'.cell? ⟨gb258,1,none⟩ = some (.slice (some ad260) l0_1.length c0_1) ∧ w'.cell? ⟨gb258,2,none⟩ = some (.slice A0_2 l0_2.length c0_2) ∧ w'.cell? ⟨gb258,3,none⟩ = some (.slice A0_3 l0_3.length c0_3) ∧ w'.cell? (ad260.add ((x4_1).toNat * 3)) = some (.string ((rd_T82 l0_1 x4_1).f0)) ∧ w'.cell? ⟨(ad260.add ((x4_1).toNat * 3)).block,(ad260.add ((x4_1).toNat * 3)).off + 1,none⟩ = some (.int .i64 ((rd_T82 l0_1 x4_1).f1)) ∧ w'.cell? ⟨(ad260.add ((x4_1).toNat * 3)).block,(ad260.add ((x4_1).toNat * 3)).off + 2,none⟩ = some (.bool false) ∧ w'.cell? (ad260.add ((x4_1).toNat * 3)) = some (.string ((rd_T82 l0_1 x4_1).f0)) ∧ w'.cell? ⟨(ad260.add ((x4_1).toNat * 3)).block,(ad260.add ((x4_1).toNat * 3)).off + 1,none⟩ = some (.int .i64 ((rd_T82 l0_1 x4_1).f1)) ∧ w'.cell? ⟨(ad260.add ((x4_1).toNat * 3)).block,(ad260.add ((x4_1).toNat * 3)).off + 2,none⟩ = some (.bool false)) (ds:=[]) (tb_ 0 18) (by kernel_rfl) rfl rfl ⟨(kC_ BK258.out 0).trans rfl,(kC_ BK258.out 1).trans rfl,(kC_ BK258.out 2).trans rfl,(kC_ BK258.out 3).trans rfl,((HB.out.cell (wL_ w _ hw260_0)).trans hw260_0),((HB.out.cell (wL_ w _ hw260_1)).trans hw260_1),((HB.out.cell (wL_ w _ hw260_2)).trans hw260_2),((HB.out.cell (wL_ w _ hw261_0)).trans hw261_0),((HB.out.cell (wL_ w _ hw261_1)).trans hw261_1),((HB.out.cell (wL_ w _ hw261_2)).trans hw261_2)⟩ (fun hHeld=>?_);refine with_tabW spec_DefText.tab7 spec_DefText.bits7 (fun HT_ HW_=>?_)
             generalize wr.drew = w26 at BK258 HB hx260_0 hx260_1 hx260_2 hx261_0 hx261_1 hx261_2 hHeld ⊢
             refine pure_ (i:=0) (N:=some 21) (v:=?_) (a':=?_) (tb_ 1 17) rfl rfl (any_of HT_.out (by kernel_rfl)) (fun _ _ _ h=>h) (Or.inl ⟨by rfl,?_⟩) ?_ ?_
             rotate_left
             ·intro w'
              go_simp
              with_reducible rfl
             rotate_left
             ·simp only [Act.put,sI_,sZ_,sS_,i64_w,i32_w]
              rfl
             refine pure_ (i:=1) (N:=some 22) (v:=?_) (a':=?_) (tb_ 2 16) rfl rfl (any_of HT_.out (by kernel_rfl)) (fun _ _ _ h=>h) (Or.inl ⟨by rfl,?_⟩) ?_ ?_
             rotate_left
             ·intro w'
              go_simp
              with_reducible rfl
             rotate_left
             ·simp only [Act.put,sI_,sZ_,sS_,i64_w,i32_w]
              rfl
             refine pure_ (i:=3) (N:=some 24) (v:=?_) (a':=?_) #[true,true,false,true,false,false,false,false,false,false,false,false,false,false,false,false,false,false] rfl rfl (any_of HT_.out (by kernel_rfl)) (fun _ _ _ h=>h) (Or.inl ⟨by rfl,?_⟩) ?_ ?_
             rotate_left
             ·intro w'
              go_simp
              with_reducible rfl
             rotate_left
             ·simp only [Act.put,sI_,sZ_,sS_,i64_w,i32_w]
              rfl
             refine pure_ (i:=9) (N:=some 30) (v:=?_) (a':=?_) #[true,true,false,true,false,false,false,false,false,true,false,false,false,false,false,false,false,false] rfl rfl (any_of HT_.out (by kernel_rfl)) (fun _ _ _ h=>h) (Or.inl ⟨by rfl,?_⟩) ?_ ?_
             rotate_left
             ·intro w'
              go_simp
              with_reducible rfl
             rotate_left
             ·simp only [Act.put,sI_,sZ_,sS_,i64_w,i32_w]
              rfl
             refine pure_ (i:=11) (N:=some 32) (v:=?_) (a':=?_) #[true,true,false,true,false,false,false,false,false,true,false,true,false,false,false,false,false,false] rfl rfl (any_of HT_.out (by kernel_rfl)) (fun _ _ _ h=>h) (Or.inl ⟨by rfl,?_⟩) ?_ ?_
             rotate_left
             ·intro w'
              go_simp
              with_reducible rfl
             rotate_left
             ·simp only [Act.put,sI_,sZ_,sS_,i64_w,i32_w]
              rfl
             refine take_ (i:=2) (N:=some 23) (v:=?_) (a':=?_) #[true,true,true,true,false,false,false,false,false,true,false,true,false,false,false,false,false,false] rfl rfl (take_ofW HT_.out HW_.out (by kernel_rfl)) (fun _ _ _ h=>h) (Or.inl ⟨by rfl,?_⟩) hHeld ?_ ?_
             rotate_left
             ·rintro w' ⟨s0,s1,s2,s3,s4,s5,s6,s7,s8,s9⟩
              go_simp
              with_reducible rfl
             rotate_left
             ·simp only [Act.put,sI_,sZ_,sS_,i64_w,i32_w]
              rfl
             refine pure_ (i:=4) (N:=some 25) (v:=?_) (a':=?_) #[true,true,true,true,true,false,false,false,false,true,false,true,false,false,false,false,false,false] rfl rfl (any_of HT_.out (by kernel_rfl)) (fun _ _ _ h=>h) (Or.inl ⟨by rfl,?_⟩) ?_ ?_
             rotate_left
             ·intro w'
              go_simp
              with_reducible rfl
             rotate_left
             ·simp only [Act.put,sI_,sZ_,sS_,i64_w,i32_w]
              rfl
             refine pure_ (i:=5) (N:=some 26) (v:=?_) (a':=?_) #[true,true,true,true,true,true,false,false,false,true,false,true,false,false,false,false,false,false] rfl rfl (any_of HT_.out (by kernel_rfl)) (fun _ _ _ h=>h) (Or.inl ⟨by rfl,?_⟩) ?_ ?_
             rotate_left
             ·intro w'
              go_simp
              with_reducible rfl
             rotate_left
             ·simp only [Act.put,sI_,sZ_,sS_,i64_w,i32_w]
              rfl
             refine take_ (i:=6) (N:=some 27) (v:=?_) (a':=?_) #[true,true,true,true,true,true,true,false,false,true,false,true,false,false,false,false,false,false] rfl rfl (take_ofW HT_.out HW_.out (by kernel_rfl)) (fun _ _ _ h=>h) (Or.inl ⟨by rfl,?_⟩) hHeld ?_ ?_
             rotate_left
             ·rintro w' ⟨s0,s1,s2,s3,s4,s5,s6,s7,s8,s9⟩
              go_simp
              with_reducible rfl
             rotate_left
             ·simp only [Act.put,sI_,sZ_,sS_,i64_w,i32_w]
              rfl
             refine pure_ (i:=7) (N:=some 28) (v:=?_) (a':=?_) #[true,true,true,true,true,true,true,true,false,true,false,true,false,false,false,false,false,false] rfl rfl (any_of HT_.out (by kernel_rfl)) (fun _ _ _ h=>h) (Or.inl ⟨by rfl,?_⟩) ?_ ?_
             rotate_left
             ·intro w'
              go_simp
              with_reducible rfl
             rotate_left
             ·simp only [Act.put,sI_,sZ_,sS_,i64_w,i32_w]
              rfl
             refine pure_ (i:=8) (N:=some 29) (v:=?_) (a':=?_) #[true,true,true,true,true,true,true,true,true,true,false,true,false,false,false,false,false,false] rfl rfl (any_of HT_.out (by kernel_rfl)) (fun _ _ _ h=>h) (Or.inl ⟨by rfl,?_⟩) ?_ ?_
             rotate_left
             ·intro w'
              go_simp
              with_reducible rfl
             rotate_left
             ·simp only [Act.put,sI_,sZ_,sS_,i64_w,i32_w]
              rfl
             refine take_ (i:=10) (N:=some 31) (v:=?_) (a':=?_) (tb_ 12 6) rfl rfl (take_ofW HT_.out HW_.out (by kernel_rfl)) (fun _ _ _ h=>h) (Or.inl ⟨by rfl,?_⟩) hHeld ?_ ?_
             rotate_left
             ·rintro w' ⟨s0,s1,s2,s3,s4,s5,s6,s7,s8,s9⟩
              go_simp
              with_reducible rfl
             rotate_left
             ·simp only [Act.put,sI_,sZ_,sS_,i64_w,i32_w]
              rfl
             refine pure_ (i:=12) (N:=some 33) (v:=?_) (a':=?_) (tb_ 13 5) rfl rfl (any_of HT_.out (by kernel_rfl)) (fun _ _ _ h=>h) (Or.inl ⟨by rfl,?_⟩) ?_ ?_
             rotate_left
             ·intro w'
              go_simp
              with_reducible rfl
             rotate_left
             ·simp only [Act.put,sI_,sZ_,sS_,i64_w,i32_w]
              rfl
             refine pure_ (i:=13) (N:=some 34) (v:=?_) (a':=?_) (tb_ 14 4) rfl rfl (any_of HT_.out (by kernel_rfl)) (fun _ _ _ h=>h) (Or.inl ⟨by rfl,?_⟩) ?_ ?_
             rotate_left
             ·intro w'
              go_simp
              with_reducible rfl
             rotate_left
             ·simp only [Act.put,sI_,sZ_,sS_,i64_w,i32_w]
              rfl
             refine take_ (i:=14) (N:=some 35) (v:=?_) (a':=?_) (tb_ 15 3) rfl rfl (take_ofW HT_.out HW_.out (by kernel_rfl)) (fun _ _ _ h=>h) (Or.inl ⟨by rfl,?_⟩) hHeld ?_ ?_
             rotate_left
             ·rintro w' ⟨s0,s1,s2,s3,s4,s5,s6,s7,s8,s9⟩
              go_simp
              with_reducible rfl
             rotate_left
             ·simp only [Act.put,sI_,sZ_,sS_,i64_w,i32_w]
              rfl
             refine one_ (i:=15) (N:=some 36) (tb_ 16 2) rfl rfl (one_of HT_.out (by kernel_rfl)) (by decide) (fun K hK=>?_)
             refine goes_ Tryd.func66 (by kernel_rfl) rfl #[.int .i64 ((rd_T82 l0_1 x4_1).f1)] (by rfl) rfl rfl (by (try simp only [mA_,mC_,mN_]);first | done | rfl | (simp only [lD_,lT_];rfl)) ?_
             with_reducible refine (spec_l9Type.calls ((rd_T82 l0_1 x4_1).f1) t262 _ A14.out).mono ?_
             rintro e w27 ⟨rfl,hb⟩
             refine ⟨_,rfl,?_⟩
             have n0_:=aM_ (blk_below (g:=gb258) (o:=.cells #[.string a0_0,.slice (some ad260) l0_1.length c0_1,.slice A0_2 l0_2.length c0_2,.slice A0_3 l0_3.length c0_3] 35 (0,0)) (by exact kZ_ BK258) hb)
             have n1_:=aM_ (bT_ (by exact bZ_ HB) hb)
             clear BK258 HB
             have BK258:=n0_
             have HB:=n1_
             clear n0_ n1_ hb
             skip
             skip
             skip
             refine hK.out _ _ ⟨(kC_ BK258.out 0).trans rfl,(kC_ BK258.out 1).trans rfl,(kC_ BK258.out 2).trans rfl,(kC_ BK258.out 3).trans rfl,((HB.out.cell (wL_ w _ hw260_0)).trans hw260_0),((HB.out.cell (wL_ w _ hw260_1)).trans hw260_1),((HB.out.cell (wL_ w _ hw260_2)).trans hw260_2),((HB.out.cell (wL_ w _ hw261_0)).trans hw261_0),((HB.out.cell (wL_ w _ hw261_1)).trans hw261_1),((HB.out.cell (wL_ w _ hw261_2)).trans hw261_2)⟩ (fun hHeld=>?_)
             clear hK K
             refine norm_ (a':=?_) ?_ ?_
             rotate_left
             ·show Act.put _ (some 36) _ = _
              simp only [Act.put,sI_,sZ_,sS_,i64_w,i32_w]
              rfl
             refine pure_ (i:=16) (N:=some 37) (v:=?_) (a':=?_) (tb_ 17 1) rfl rfl (any_of HT_.out (by kernel_rfl)) (fun _ _ _ h=>h) (Or.inl ⟨by rfl,?_⟩) ?_ ?_
             rotate_left
             ·intro w'
              go_simp
              with_reducible rfl
             rotate_left
             ·simp only [Act.put,sI_,sZ_,sS_,i64_w,i32_w]
              rfl
             refine pure_ (i:=17) (N:=some 3) (v:=?_) (a':=?_) (tb_ 18 0) rfl rfl (any_of HT_.out (by kernel_rfl)) (fun _ _ _ h=>h) (Or.inl ⟨by rfl,?_⟩) ?_ ?_
             rotate_left
             ·intro w'
              go_simp
              with_reducible rfl
             rotate_left
             ·simp only [Act.put,sI_,sZ_,sS_,i64_w,i32_w]
              rfl
             refine done_ (done_of HT_.out (by kernel_rfl)) ?_
             have hcz28_0 : w27.cell? ⟨gb258,0,none⟩ = some (.string a0_0):=(kC_ BK258.out 0).trans rfl
             have hcz28_1 : w27.cell? ⟨gb258,1,none⟩ = some (.slice (some ad260) l0_1.length c0_1):=(kC_ BK258.out 1).trans rfl
             have hcz28_2 : w27.cell? ⟨gb258,2,none⟩ = some (.slice A0_2 l0_2.length c0_2):=(kC_ BK258.out 2).trans rfl
             have hcz28_3 : w27.cell? ⟨gb258,3,none⟩ = some (.slice A0_3 l0_3.length c0_3):=(kC_ BK258.out 3).trans rfl
             have hfz28_0:=kF_ BK258.out 0
             have hfz28_1:=kF_ BK258.out 1
             have hfz28_2:=kF_ BK258.out 2
             have hfz28_3:=kF_ BK258.out 3
             have p263 : 0 ≤ (x4_1 : Int):=oT_ (by first | (with_reducible assumption) | assumption)
             have q263 : x4_1 < (l0_1.length : Int):=oT_ (by first | (with_reducible assumption) | assumption)
             obtain ⟨ad263,e263,hx263_0,hx263_1,hx263_2⟩:=at_T82 HR0_1.out x4_1 p263 q263
             (try rw [← Nbq16.out] at hx263_2)
             obtain rfl : ad260 = ad263:=(by injection e263)
             replace hx263_0:=(HB.out.cell (wL_ w _ hx263_0)).trans hx263_0
             replace hx263_1:=(HB.out.cell (wL_ w _ hx263_1)).trans hx263_1
             replace hx263_2:=(HB.out.cell (wL_ w _ hx263_2)).trans hx263_2
             replace p263:=eq_true p263
             replace q263:=eq_true q263
             try go_wp2
             go_roundg k1
             case measure=>have:=HK1.out;omega
             case rel=>exact ⟨((((x3_1 ++ ((rd_T82 l0_1 x4_1).f0)) ++ (⟨#[32]⟩ : ByteArray)) ++ t262) ++ (⟨#[59,32]⟩ : ByteArray)),(wrap64 (x4_1 + 1)),(by first | rfl | (simp;done) | (simp [*];done)),(by first | rfl | (simp;done) | (simp [*];done)),H', ⟨by have:=HK1.out;omega⟩,⟨by exact kZ_ BK258⟩,⟨by exact bZ_ HB⟩⟩
            ·rw [if_neg c24] at H
             exact absurd H (by simp)
          ·rw [if_neg c15] at H
           exact absurd H (by simp)
         ·rw [if_neg c13] at H
          exact absurd H (by simp)
        ·rw [if_neg c12] at H
         exact absurd H (by simp)
       ·rw [if_neg c11] at H
        exact absurd H (by simp)
      ·rw [if_neg c10] at H
       have c10b0 : decide (x4_1 < (l0_1.length : Int)) = false:=decide_eq_false c10
       clear c10
       by_cases c29 : x3_1.size + 8 ≤ 9223372036854775807
       ·rw [if_pos c29] at H
        have c29b0:=eq_true c29
        have c29b1 : decide (x3_1.size + 8 ≤ 9223372036854775807) = true:=decide_eq_true c29
        try have c29b2 : (9223372036854775807 < x3_1.size + 8) = False:=eq_false (Nat.not_lt.2 c29)
        replace H:=oB_ H
        obtain ⟨t264,A300,H⟩:=H
        replace H : (if (x3_1 ++ (⟨#[112,114,105,109,97,114,121,32]⟩ : ByteArray)).size + t264.size ≤ 9223372036854775807 then (spec_DefText.l1 k1 ((x3_1 ++ (⟨#[112,114,105,109,97,114,121,32]⟩ : ByteArray)) ++ t264) 0 a0_0 l0_1 l0_2 l0_3) else (none)) = some r:=H
        have A30:=aM_ A300
        clear A300
        by_cases c31 : (x3_1 ++ (⟨#[112,114,105,109,97,114,121,32]⟩ : ByteArray)).size + t264.size ≤ 9223372036854775807
        ·rw [if_pos c31] at H
         have c31b0:=eq_true c31
         have c31b1 : decide ((x3_1 ++ (⟨#[112,114,105,109,97,114,121,32]⟩ : ByteArray)).size + t264.size ≤ 9223372036854775807) = true:=decide_eq_true c31
         try have c31b2 : (9223372036854775807 < (x3_1 ++ (⟨#[112,114,105,109,97,114,121,32]⟩ : ByteArray)).size + t264.size) = False:=eq_false (Nat.not_lt.2 c31)
         have c31b3:=eq_false (Nat.not_lt.2 c31);(repeat rw [ByteArray.size_append] at c31b3);(try rw [show (⟨#[112,114,105,109,97,114,121,32]⟩ : ByteArray).size = 8 from rfl] at c31b3)
         have H':=aM_ H
         clear H
         have hcz32_0 : wr.cell? ⟨gb258,0,none⟩ = some (.string a0_0):=(kC_ BK258.out 0).trans rfl
         have hcz32_1 : wr.cell? ⟨gb258,1,none⟩ = some (.slice A0_1 l0_1.length c0_1):=(kC_ BK258.out 1).trans rfl
         have hcz32_2 : wr.cell? ⟨gb258,2,none⟩ = some (.slice A0_2 l0_2.length c0_2):=(kC_ BK258.out 2).trans rfl
         have hcz32_3 : wr.cell? ⟨gb258,3,none⟩ = some (.slice A0_3 l0_3.length c0_3):=(kC_ BK258.out 3).trans rfl
         have hfz32_0:=kF_ BK258.out 0
         have hfz32_1:=kF_ BK258.out 1
         have hfz32_2:=kF_ BK258.out 2
         have hfz32_3:=kF_ BK258.out 3
         go_wp2_with (first | ((with_reducible refine gate_callee (f:=67) rfl ?_);refine goesL_ (some 53) rfl rfl Tryd.func67 (by kernel_rfl) rfl #[.agg #[.string a0_0,.slice A0_1 l0_1.length c0_1,.slice A0_2 l0_2.length c0_2,.slice A0_3 l0_3.length c0_3],.slice A0_2 l0_2.length c0_2] rfl (by (try simp only [mA_,mC_,mN_]);first | done | rfl | (simp only [lD_,lT_];rfl)) ?_;(with_reducible refine (spec_l9PartsText.calls k1 a0_0 _ _ l0_1 _ _ l0_2 _ _ l0_3 _ _ l0_2 t264 _ ?side1 ?side2 ?side3 ?side4 ?side5 ?side6 ?side7 ?side8 A30.out).mono ?_);(case side1=>exact cZ_ HR0_1 HB);(case side2=>exact HC0_1.out);(case side3=>exact cZ_ HR0_2 HB);(case side4=>exact HC0_2.out);(case side5=>exact cZ_ HR0_3 HB);(case side6=>exact HC0_3.out);(case side7=>exact cZ_ HR0_2 HB);(case side8=>exact HC0_2.out);rintro e w33 ⟨rfl,hb⟩;refine ⟨_,rfl,?_⟩;have n0_:=aM_ (blk_below (g:=gb258) (o:=.cells #[.string a0_0,.slice A0_1 l0_1.length c0_1,.slice A0_2 l0_2.length c0_2,.slice A0_3 l0_3.length c0_3] 35 (0,0)) (by exact kZ_ BK258) hb);have n1_:=aM_ (bT_ (by exact bZ_ HB) hb);clear BK258 HB;have BK258:=n0_;have HB:=n1_;clear n0_ n1_ hb))
         (try simp only [Act.put,sI_,sS_,sZ_])
         go_loopg [3,5] k1 (fun kq v3 v5 w'=>∃ (x3_2 : ByteArray) (x5_2 : Int),v3 = .string x3_2 ∧ v5 = .int .i64 x5_2 ∧ Aside0 (spec_DefText.l1 kq x3_2 x5_2 a0_0 l0_1 l0_2 l0_3 = some r) ∧ Aside0 (kq ≤ k1) ∧ Aside0 (w'.heap[gb258]? = some (.cells #[.string a0_0,(.slice A0_1 l0_1.length c0_1),(.slice A0_2 l0_2.length c0_2),(.slice A0_3 l0_3.length c0_3)] 35 (0,0))) ∧ Aside0 (Below w.heap.size w w'))
         case atStart=>exact ⟨((x3_1 ++ (⟨#[112,114,105,109,97,114,121,32]⟩ : ByteArray)) ++ t264),(0),(by first | rfl | (simp;done) | (simp [*];done)),(by first | rfl | (simp;done) | (simp [*];done)),H', ⟨Nat.le_refl _⟩,⟨by exact kZ_ BK258⟩,⟨by exact bZ_ HB⟩⟩
         case round =>
          clear H'
          clear c10b0 c29 c29b0 c29b1 c29b2 c31 c31b0 c31b1 c31b2 hcz32_0 hcz32_1 hcz32_2 hcz32_3 hfz32_0 hfz32_1 hfz32_2 hfz32_3
          obtain ⟨x3_2,x5_2,rfl,rfl,HA,HK2,BK258,HB⟩:=hrel
          cases gk with
          | zero=>exact absurd HA.out (by simp [spec_DefText.l1])
          | succ k2 =>
           have H:=HA.out
           clear HA
           simp only [spec_DefText.l1] at H
           by_cases c34 : x5_2 < (l0_3.length : Int)
           ·rw [if_pos c34] at H
            have c34b0 : decide (x5_2 < (l0_3.length : Int)) = true:=decide_eq_true c34
            clear c34
            by_cases c35 : 0 ≤ x5_2
            ·rw [if_pos c35] at H
             have c35b0 : decide (0 ≤ x5_2) = true:=decide_eq_true c35
             clear c35
             obtain ⟨bq36,hbq36⟩ : ∃ b_ : Bool,b_ = ((rd_T69 l0_3 x5_2).f1):=⟨_,rfl⟩
             replace H : (if bq36 = true then (if x3_2.size + 7 ≤ 9223372036854775807 then (if (x3_2 ++ (⟨#[117,110,105,113,117,101,32]⟩ : ByteArray)).size + ((rd_T69 l0_3 x5_2).f0).size ≤ 9223372036854775807 then (if ((x3_2 ++ (⟨#[117,110,105,113,117,101,32]⟩ : ByteArray)) ++ ((rd_T69 l0_3 x5_2).f0)).size + 1 ≤ 9223372036854775807 then ((spec_l9PartsText.f k2 a0_0 l0_1 l0_2 l0_3 ((rd_T69 l0_3 x5_2).f2)).bind fun t268=>(if (((x3_2 ++ (⟨#[117,110,105,113,117,101,32]⟩ : ByteArray)) ++ ((rd_T69 l0_3 x5_2).f0)) ++ (⟨#[32]⟩ : ByteArray)).size + t268.size ≤ 9223372036854775807 then (spec_DefText.l1 k2 ((((x3_2 ++ (⟨#[117,110,105,113,117,101,32]⟩ : ByteArray)) ++ ((rd_T69 l0_3 x5_2).f0)) ++ (⟨#[32]⟩ : ByteArray)) ++ t268) (wrap64 (x5_2 + 1)) a0_0 l0_1 l0_2 l0_3) else (none))) else (none)) else (none)) else (none)) else (if x3_2.size + 6 ≤ 9223372036854775807 then (if (x3_2 ++ (⟨#[105,110,100,101,120,32]⟩ : ByteArray)).size + ((rd_T69 l0_3 x5_2).f0).size ≤ 9223372036854775807 then (if ((x3_2 ++ (⟨#[105,110,100,101,120,32]⟩ : ByteArray)) ++ ((rd_T69 l0_3 x5_2).f0)).size + 1 ≤ 9223372036854775807 then ((spec_l9PartsText.f k2 a0_0 l0_1 l0_2 l0_3 ((rd_T69 l0_3 x5_2).f2)).bind fun t271=>(if (((x3_2 ++ (⟨#[105,110,100,101,120,32]⟩ : ByteArray)) ++ ((rd_T69 l0_3 x5_2).f0)) ++ (⟨#[32]⟩ : ByteArray)).size + t271.size ≤ 9223372036854775807 then (spec_DefText.l1 k2 ((((x3_2 ++ (⟨#[105,110,100,101,120,32]⟩ : ByteArray)) ++ ((rd_T69 l0_3 x5_2).f0)) ++ (⟨#[32]⟩ : ByteArray)) ++ t271) (wrap64 (x5_2 + 1)) a0_0 l0_1 l0_2 l0_3) else (none))) else (none)) else (none)) else (none))) = some r:=by rw [← hbq36] at H;exact H
             have Nbq36:=aM_ hbq36
             clear hbq36
             by_cases c37 : bq36 = true
             ·subst c37
              have H1 : (if x3_2.size + 7 ≤ 9223372036854775807 then (if (x3_2 ++ (⟨#[117,110,105,113,117,101,32]⟩ : ByteArray)).size + ((rd_T69 l0_3 x5_2).f0).size ≤ 9223372036854775807 then (if ((x3_2 ++ (⟨#[117,110,105,113,117,101,32]⟩ : ByteArray)) ++ ((rd_T69 l0_3 x5_2).f0)).size + 1 ≤ 9223372036854775807 then ((spec_l9PartsText.f k2 a0_0 l0_1 l0_2 l0_3 ((rd_T69 l0_3 x5_2).f2)).bind fun t268=>(if (((x3_2 ++ (⟨#[117,110,105,113,117,101,32]⟩ : ByteArray)) ++ ((rd_T69 l0_3 x5_2).f0)) ++ (⟨#[32]⟩ : ByteArray)).size + t268.size ≤ 9223372036854775807 then (spec_DefText.l1 k2 ((((x3_2 ++ (⟨#[117,110,105,113,117,101,32]⟩ : ByteArray)) ++ ((rd_T69 l0_3 x5_2).f0)) ++ (⟨#[32]⟩ : ByteArray)) ++ t268) (wrap64 (x5_2 + 1)) a0_0 l0_1 l0_2 l0_3) else (none))) else (none)) else (none)) else (none)) = some r:=by rw [if_pos rfl] at H;exact H
              clear H
              have H:=H1
              clear H1
              by_cases c38 : x3_2.size + 7 ≤ 9223372036854775807
              ·rw [if_pos c38] at H
               have c38b0:=eq_true c38
               have c38b1 : decide (x3_2.size + 7 ≤ 9223372036854775807) = true:=decide_eq_true c38
               try have c38b2 : (9223372036854775807 < x3_2.size + 7) = False:=eq_false (Nat.not_lt.2 c38)
               by_cases c39 : (x3_2 ++ (⟨#[117,110,105,113,117,101,32]⟩ : ByteArray)).size + ((rd_T69 l0_3 x5_2).f0).size ≤ 9223372036854775807
               ·rw [if_pos c39] at H
                have c39b0:=eq_true c39
                have c39b1 : decide ((x3_2 ++ (⟨#[117,110,105,113,117,101,32]⟩ : ByteArray)).size + ((rd_T69 l0_3 x5_2).f0).size ≤ 9223372036854775807) = true:=decide_eq_true c39
                try have c39b2 : (9223372036854775807 < (x3_2 ++ (⟨#[117,110,105,113,117,101,32]⟩ : ByteArray)).size + ((rd_T69 l0_3 x5_2).f0).size) = False:=eq_false (Nat.not_lt.2 c39)
                have c39b3:=eq_false (Nat.not_lt.2 c39);(repeat rw [ByteArray.size_append] at c39b3);(try rw [show (⟨#[117,110,105,113,117,101,32]⟩ : ByteArray).size = 7 from rfl] at c39b3)
                by_cases c40 : ((x3_2 ++ (⟨#[117,110,105,113,117,101,32]⟩ : ByteArray)) ++ ((rd_T69 l0_3 x5_2).f0)).size + 1 ≤ 9223372036854775807
                ·rw [if_pos c40] at H
                 have c40b0:=eq_true c40
                 have c40b1 : decide (((x3_2 ++ (⟨#[117,110,105,113,117,101,32]⟩ : ByteArray)) ++ ((rd_T69 l0_3 x5_2).f0)).size + 1 ≤ 9223372036854775807) = true:=decide_eq_true c40
                 try have c40b2 : (9223372036854775807 < ((x3_2 ++ (⟨#[117,110,105,113,117,101,32]⟩ : ByteArray)) ++ ((rd_T69 l0_3 x5_2).f0)).size + 1) = False:=eq_false (Nat.not_lt.2 c40)
                 have c40b3:=eq_false (Nat.not_lt.2 c40);(repeat rw [ByteArray.size_append] at c40b3);(try rw [show (⟨#[117,110,105,113,117,101,32]⟩ : ByteArray).size = 7 from rfl] at c40b3)
                 replace H:=oB_ H
                 obtain ⟨t268,A410,H⟩:=H
                 replace H : (if (((x3_2 ++ (⟨#[117,110,105,113,117,101,32]⟩ : ByteArray)) ++ ((rd_T69 l0_3 x5_2).f0)) ++ (⟨#[32]⟩ : ByteArray)).size + t268.size ≤ 9223372036854775807 then (spec_DefText.l1 k2 ((((x3_2 ++ (⟨#[117,110,105,113,117,101,32]⟩ : ByteArray)) ++ ((rd_T69 l0_3 x5_2).f0)) ++ (⟨#[32]⟩ : ByteArray)) ++ t268) (wrap64 (x5_2 + 1)) a0_0 l0_1 l0_2 l0_3) else (none)) = some r:=H
                 have A41:=aM_ A410
                 clear A410
                 by_cases c42 : (((x3_2 ++ (⟨#[117,110,105,113,117,101,32]⟩ : ByteArray)) ++ ((rd_T69 l0_3 x5_2).f0)) ++ (⟨#[32]⟩ : ByteArray)).size + t268.size ≤ 9223372036854775807
                 ·rw [if_pos c42] at H
                  have c42b0:=eq_true c42
                  have c42b1 : decide ((((x3_2 ++ (⟨#[117,110,105,113,117,101,32]⟩ : ByteArray)) ++ ((rd_T69 l0_3 x5_2).f0)) ++ (⟨#[32]⟩ : ByteArray)).size + t268.size ≤ 9223372036854775807) = true:=decide_eq_true c42
                  try have c42b2 : (9223372036854775807 < (((x3_2 ++ (⟨#[117,110,105,113,117,101,32]⟩ : ByteArray)) ++ ((rd_T69 l0_3 x5_2).f0)) ++ (⟨#[32]⟩ : ByteArray)).size + t268.size) = False:=eq_false (Nat.not_lt.2 c42)
                  have c42b3:=eq_false (Nat.not_lt.2 c42);(repeat rw [ByteArray.size_append] at c42b3);(try rw [show (⟨#[117,110,105,113,117,101,32]⟩ : ByteArray).size = 7 from rfl] at c42b3);(try rw [show (⟨#[32]⟩ : ByteArray).size = 1 from rfl] at c42b3)
                  have H':=aM_ H
                  clear H
                  have hcz43_0 : wr.cell? ⟨gb258,0,none⟩ = some (.string a0_0):=(kC_ BK258.out 0).trans rfl
                  have hcz43_1 : wr.cell? ⟨gb258,1,none⟩ = some (.slice A0_1 l0_1.length c0_1):=(kC_ BK258.out 1).trans rfl
                  have hcz43_2 : wr.cell? ⟨gb258,2,none⟩ = some (.slice A0_2 l0_2.length c0_2):=(kC_ BK258.out 2).trans rfl
                  have hcz43_3 : wr.cell? ⟨gb258,3,none⟩ = some (.slice A0_3 l0_3.length c0_3):=(kC_ BK258.out 3).trans rfl
                  have hfz43_0:=kF_ BK258.out 0
                  have hfz43_1:=kF_ BK258.out 1
                  have hfz43_2:=kF_ BK258.out 2
                  have hfz43_3:=kF_ BK258.out 3
                  have p265 : 0 ≤ (x5_2 : Int):=oT_ (by first | (with_reducible assumption) | assumption)
                  have q265 : x5_2 < (l0_3.length : Int):=oT_ (by first | (with_reducible assumption) | assumption)
                  obtain ⟨ad265,A265_2,c265_2,e265,hx265_0,hx265_1,hx265_2,hl265_2,hi265_2⟩:=at_T69 HR0_3.out x5_2 p265 q265
                  (try rw [← Nbq36.out] at hx265_1)
                  cases e265
                  replace hx265_0:=(HB.out.cell (wL_ w _ hx265_0)).trans hx265_0
                  replace hx265_1:=(HB.out.cell (wL_ w _ hx265_1)).trans hx265_1
                  replace hx265_2:=(HB.out.cell (wL_ w _ hx265_2)).trans hx265_2
                  have HR265_2:=aM_ hi265_2
                  have HC265_2:=aM_ hl265_2
                  clear hi265_2 hl265_2
                  replace p265:=eq_true p265
                  replace q265:=eq_true q265
                  try go_wp2
                  have n0_:=aM_ (kD_ BK258.out)
                  have n1_:=aM_ (bD_ HB.out)
                  clear BK258 HB
                  have BK258:=n0_
                  have HB:=n1_
                  clear n0_ n1_
                  have p266 : 0 ≤ (x5_2 : Int):=oT_ (by first | (with_reducible assumption) | assumption)
                  have q266 : x5_2 < (l0_3.length : Int):=oT_ (by first | (with_reducible assumption) | assumption)
                  obtain ⟨ad266,A266_2,c266_2,e266,hx266_0,hx266_1,hx266_2,hl266_2,hi266_2⟩:=at_T69 HR0_3.out x5_2 p266 q266
                  have hw266_2:=hx266_2
                  have hw266_1:=hx266_1
                  have hw266_0:=hx266_0
                  (try rw [← Nbq36.out] at hx266_1)
                  (try rw [← Nbq36.out] at hw266_1)
                  obtain rfl : ad265 = ad266:=(by injection e266)
                  replace hx266_0:=(HB.out.cell (wL_ w _ hx266_0)).trans hx266_0
                  replace hx266_1:=(HB.out.cell (wL_ w _ hx266_1)).trans hx266_1
                  replace hx266_2:=(HB.out.cell (wL_ w _ hx266_2)).trans hx266_2
                  have HR266_2:=aM_ hi266_2
                  have HC266_2:=aM_ hl266_2
                  clear hi266_2 hl266_2
                  replace p266:=eq_true p266
                  replace q266:=eq_true q266
                  have p267 : 0 ≤ (x5_2 : Int):=oT_ (by first | (with_reducible assumption) | assumption)
                  have q267 : x5_2 < (l0_3.length : Int):=oT_ (by first | (with_reducible assumption) | assumption)
                  obtain ⟨ad267,A267_2,c267_2,e267,hx267_0,hx267_1,hx267_2,hl267_2,hi267_2⟩:=at_T69 HR0_3.out x5_2 p267 q267
                  have hw267_2:=hx267_2
                  have hw267_1:=hx267_1
                  have hw267_0:=hx267_0
                  (try rw [← Nbq36.out] at hx267_1)
                  (try rw [← Nbq36.out] at hw267_1)
                  obtain rfl : ad265 = ad267:=(by injection e267)
                  replace hx267_0:=(HB.out.cell (wL_ w _ hx267_0)).trans hx267_0
                  replace hx267_1:=(HB.out.cell (wL_ w _ hx267_1)).trans hx267_1
                  replace hx267_2:=(HB.out.cell (wL_ w _ hx267_2)).trans hx267_2
                  have HR267_2:=aM_ hi267_2
                  have HC267_2:=aM_ hl267_2
                  clear hi267_2 hl267_2
                  replace p267:=eq_true p267
                  replace q267:=eq_true q267
                  have ea_:=Option.some.inj (hx266_2.symm.trans hx267_2)
                  injection ea_ with ea_ en_ ec_
                  subst ea_
                  subst ec_
                  clear en_
                  refine start_ (n:=21) (S:=fun w'=>w'.cell? ⟨gb258,0,none⟩ = some (.string a0_0) ∧ w'.cell? ⟨gb258,1,none⟩ = some (.slice A0_1 l0_1.length c0_1) ∧ w'.cell? ⟨gb258,2,none⟩ = some (.slice A0_2 l0_2.length c0_2) ∧ w'.cell? ⟨gb258,3,none⟩ = some (.slice (some ad265) l0_3.length c0_3) ∧ w'.cell? (ad265.add ((x5_2).toNat * 3)) = some (.string ((rd_T69 l0_3 x5_2).f0)) ∧ w'.cell? ⟨(ad265.add ((x5_2).toNat * 3)).block,(ad265.add ((x5_2).toNat * 3)).off + 1,none⟩ = some (.bool (true)) ∧ w'.cell? ⟨(ad265.add ((x5_2).toNat * 3)).block,(ad265.add ((x5_2).toNat * 3)).off + 2,none⟩ = some (.slice A266_2 ((rd_T69 l0_3 x5_2).f2).length c266_2) ∧ w'.cell? (ad265.add ((x5_2).toNat * 3)) = some (.string ((rd_T69 l0_3 x5_2).f0)) ∧ w'.cell? ⟨(ad265.add ((x5_2).toNat * 3)).block,(ad265.add ((x5_2).toNat * 3)).off + 1,none⟩ = some (.bool (true)) ∧ w'.cell? ⟨(ad265.add ((x5_2).toNat * 3)).block,(ad265.add ((x5_2).toNat * 3)).off + 2,none⟩ = some (.slice A266_2 ((rd_T69 l0_3 x5_2).f2).length c266_2)) (ds:=[]) (tb_ 0 21) (by kernel_rfl) rfl rfl ⟨(kC_ BK258.out 0).trans rfl,(kC_ BK258.out 1).trans rfl,(kC_ BK258.out 2).trans rfl,(kC_ BK258.out 3).trans rfl,((HB.out.cell (wL_ w _ hw266_0)).trans hw266_0),((HB.out.cell (wL_ w _ hw266_1)).trans hw266_1),((HB.out.cell (wL_ w _ hw266_2)).trans hw266_2),((HB.out.cell (wL_ w _ hw267_0)).trans hw267_0),((HB.out.cell (wL_ w _ hw267_1)).trans hw267_1),((HB.out.cell (wL_ w _ hw267_2)).trans hw267_2)⟩ (fun hHeld=>?_);refine with_tabW spec_DefText.tab18 spec_DefText.bits18 (fun HT_ HW_=>?_)
                  generalize wr.drew = w44 at BK258 HB HR266_2 HR267_2 hx266_0 hx266_1 hx266_2 hx267_0 hx267_1 hx267_2 hHeld ⊢
                  refine pure_ (i:=0) (N:=some 68) (v:=?_) (a':=?_) (tb_ 1 20) rfl rfl (any_of HT_.out (by kernel_rfl)) (fun _ _ _ h=>h) (Or.inl ⟨by rfl,?_⟩) ?_ ?_
                  rotate_left
                  ·intro w'
                   go_simp
                   with_reducible rfl
                  rotate_left
                  ·simp only [Act.put,sI_,sZ_,sS_,i64_w,i32_w]
                   rfl
                  refine pure_ (i:=1) (N:=some 69) (v:=?_) (a':=?_) (tb_ 2 19) rfl rfl (any_of HT_.out (by kernel_rfl)) (fun _ _ _ h=>h) (Or.inl ⟨by rfl,?_⟩) ?_ ?_
                  rotate_left
                  ·intro w'
                   go_simp
                   with_reducible rfl
                  rotate_left
                  ·simp only [Act.put,sI_,sZ_,sS_,i64_w,i32_w]
                   rfl
                  refine pure_ (i:=2) (N:=some 70) (v:=?_) (a':=?_) (tb_ 3 18) rfl rfl (any_of HT_.out (by kernel_rfl)) (fun _ _ _ h=>h) (Or.inl ⟨by rfl,?_⟩) ?_ ?_
                  rotate_left
                  ·intro w'
                   go_simp
                   with_reducible rfl
                  rotate_left
                  ·simp only [Act.put,sI_,sZ_,sS_,i64_w,i32_w]
                   rfl
                  refine pure_ (i:=3) (N:=some 71) (v:=?_) (a':=?_) (tb_ 4 17) rfl rfl (any_of HT_.out (by kernel_rfl)) (fun _ _ _ h=>h) (Or.inl ⟨by rfl,?_⟩) ?_ ?_
                  rotate_left
                  ·intro w'
                   go_simp
                   with_reducible rfl
                  rotate_left
                  ·simp only [Act.put,sI_,sZ_,sS_,i64_w,i32_w]
                   rfl
                  refine pure_ (i:=5) (N:=some 73) (v:=?_) (a':=?_) #[true,true,true,true,false,true,false,false,false,false,false,false,false,false,false,false,false,false,false,false,false] rfl rfl (any_of HT_.out (by kernel_rfl)) (fun _ _ _ h=>h) (Or.inl ⟨by rfl,?_⟩) ?_ ?_
                  rotate_left
                  ·intro w'
                   go_simp
                   with_reducible rfl
                  rotate_left
                  ·simp only [Act.put,sI_,sZ_,sS_,i64_w,i32_w]
                   rfl
                  refine pure_ (i:=12) (N:=some 80) (v:=?_) (a':=?_) #[true,true,true,true,false,true,false,false,false,false,false,false,true,false,false,false,false,false,false,false,false] rfl rfl (any_of HT_.out (by kernel_rfl)) (fun _ _ _ h=>h) (Or.inl ⟨by rfl,?_⟩) ?_ ?_
                  rotate_left
                  ·intro w'
                   go_simp
                   with_reducible rfl
                  rotate_left
                  ·simp only [Act.put,sI_,sZ_,sS_,i64_w,i32_w]
                   rfl
                  refine pure_ (i:=14) (N:=some 82) (v:=?_) (a':=?_) #[true,true,true,true,false,true,false,false,false,false,false,false,true,false,true,false,false,false,false,false,false] rfl rfl (any_of HT_.out (by kernel_rfl)) (fun _ _ _ h=>h) (Or.inl ⟨by rfl,?_⟩) ?_ ?_
                  rotate_left
                  ·intro w'
                   go_simp
                   with_reducible rfl
                  rotate_left
                  ·simp only [Act.put,sI_,sZ_,sS_,i64_w,i32_w]
                   rfl
                  refine take_ (i:=4) (N:=some 72) (v:=?_) (a':=?_) #[true,true,true,true,true,true,false,false,false,false,false,false,true,false,true,false,false,false,false,false,false] rfl rfl (take_ofW HT_.out HW_.out (by kernel_rfl)) (fun _ _ _ h=>h) (Or.inl ⟨by rfl,?_⟩) hHeld ?_ ?_
                  rotate_left
                  ·rintro w' ⟨s0,s1,s2,s3,s4,s5,s6,s7,s8,s9⟩
                   go_simp
                   with_reducible rfl
                  rotate_left
                  ·simp only [Act.put,sI_,sZ_,sS_,i64_w,i32_w]
                   rfl
                  refine pure_ (i:=6) (N:=some 74) (v:=?_) (a':=?_) #[true,true,true,true,true,true,true,false,false,false,false,false,true,false,true,false,false,false,false,false,false] rfl rfl (any_of HT_.out (by kernel_rfl)) (fun _ _ _ h=>h) (Or.inl ⟨by rfl,?_⟩) ?_ ?_
                  rotate_left
                  ·intro w'
                   go_simp
                   with_reducible rfl
                  rotate_left
                  ·simp only [Act.put,sI_,sZ_,sS_,i64_w,i32_w]
                   rfl
                  refine pure_ (i:=7) (N:=some 75) (v:=?_) (a':=?_) #[true,true,true,true,true,true,true,true,false,false,false,false,true,false,true,false,false,false,false,false,false] rfl rfl (any_of HT_.out (by kernel_rfl)) (fun _ _ _ h=>h) (Or.inl ⟨by rfl,?_⟩) ?_ ?_
                  rotate_left
                  ·intro w'
                   go_simp
                   with_reducible rfl
                  rotate_left
                  ·simp only [Act.put,sI_,sZ_,sS_,i64_w,i32_w]
                   rfl
                  refine take_ (i:=8) (N:=some 76) (v:=?_) (a':=?_) #[true,true,true,true,true,true,true,true,true,false,false,false,true,false,true,false,false,false,false,false,false] rfl rfl (take_ofW HT_.out HW_.out (by kernel_rfl)) (fun _ _ _ h=>h) (Or.inl ⟨by rfl,?_⟩) hHeld ?_ ?_
                  rotate_left
                  ·rintro w' ⟨s0,s1,s2,s3,s4,s5,s6,s7,s8,s9⟩
                   go_simp
                   with_reducible rfl
                  rotate_left
                  ·simp only [Act.put,sI_,sZ_,sS_,i64_w,i32_w]
                   rfl
                  refine pure_ (i:=9) (N:=some 77) (v:=?_) (a':=?_) #[true,true,true,true,true,true,true,true,true,true,false,false,true,false,true,false,false,false,false,false,false] rfl rfl (any_of HT_.out (by kernel_rfl)) (fun _ _ _ h=>h) (Or.inl ⟨by rfl,?_⟩) ?_ ?_
                  rotate_left
                  ·intro w'
                   go_simp
                   with_reducible rfl
                  rotate_left
                  ·simp only [Act.put,sI_,sZ_,sS_,i64_w,i32_w]
                   rfl
                  refine pure_ (i:=10) (N:=some 78) (v:=?_) (a':=?_) #[true,true,true,true,true,true,true,true,true,true,true,false,true,false,true,false,false,false,false,false,false] rfl rfl (any_of HT_.out (by kernel_rfl)) (fun _ _ _ h=>h) (Or.inl ⟨by rfl,?_⟩) ?_ ?_
                  rotate_left
                  ·intro w'
                   go_simp
                   with_reducible rfl
                  rotate_left
                  ·simp only [Act.put,sI_,sZ_,sS_,i64_w,i32_w]
                   rfl
                  refine take_ (i:=11) (N:=some 79) (v:=?_) (a':=?_) #[true,true,true,true,true,true,true,true,true,true,true,true,true,false,true,false,false,false,false,false,false] rfl rfl (take_ofW HT_.out HW_.out (by kernel_rfl)) (fun _ _ _ h=>h) (Or.inl ⟨by rfl,?_⟩) hHeld ?_ ?_
                  rotate_left
                  ·rintro w' ⟨s0,s1,s2,s3,s4,s5,s6,s7,s8,s9⟩
                   go_simp
                   with_reducible rfl
                  rotate_left
                  ·simp only [Act.put,sI_,sZ_,sS_,i64_w,i32_w]
                   rfl
                  refine take_ (i:=13) (N:=some 81) (v:=?_) (a':=?_) (tb_ 15 6) rfl rfl (take_ofW HT_.out HW_.out (by kernel_rfl)) (fun _ _ _ h=>h) (Or.inl ⟨by rfl,?_⟩) hHeld ?_ ?_
                  rotate_left
                  ·rintro w' ⟨s0,s1,s2,s3,s4,s5,s6,s7,s8,s9⟩
                   go_simp
                   with_reducible rfl
                  rotate_left
                  ·simp only [Act.put,sI_,sZ_,sS_,i64_w,i32_w]
                   rfl
                  refine pure_ (i:=15) (N:=some 83) (v:=?_) (a':=?_) (tb_ 16 5) rfl rfl (any_of HT_.out (by kernel_rfl)) (fun _ _ _ h=>h) (Or.inl ⟨by rfl,?_⟩) ?_ ?_
                  rotate_left
                  ·intro w'
                   go_simp
                   with_reducible rfl
                  rotate_left
                  ·simp only [Act.put,sI_,sZ_,sS_,i64_w,i32_w]
                   rfl
                  refine pure_ (i:=16) (N:=some 84) (v:=?_) (a':=?_) (tb_ 17 4) rfl rfl (any_of HT_.out (by kernel_rfl)) (fun _ _ _ h=>h) (Or.inl ⟨by rfl,?_⟩) ?_ ?_
                  rotate_left
                  ·intro w'
                   go_simp
                   with_reducible rfl
                  rotate_left
                  ·simp only [Act.put,sI_,sZ_,sS_,i64_w,i32_w]
                   rfl
                  refine take_ (i:=17) (N:=some 85) (v:=?_) (a':=?_) (tb_ 18 3) rfl rfl (take_ofW HT_.out HW_.out (by kernel_rfl)) (fun _ _ _ h=>h) (Or.inl ⟨by rfl,?_⟩) hHeld ?_ ?_
                  rotate_left
                  ·rintro w' ⟨s0,s1,s2,s3,s4,s5,s6,s7,s8,s9⟩
                   go_simp
                   with_reducible rfl
                  rotate_left
                  ·simp only [Act.put,sI_,sZ_,sS_,i64_w,i32_w]
                   rfl
                  refine one_ (i:=18) (N:=some 86) (tb_ 19 2) rfl rfl (one_of HT_.out (by kernel_rfl)) (by decide) (fun K hK=>?_)
                  refine goes_ Tryd.func67 (by kernel_rfl) rfl #[.agg #[.string a0_0,.slice A0_1 l0_1.length c0_1,.slice A0_2 l0_2.length c0_2,.slice (some ad265) l0_3.length c0_3],.slice A266_2 ((rd_T69 l0_3 x5_2).f2).length c266_2] (by rfl) rfl rfl (by (try simp only [mA_,mC_,mN_]);first | done | rfl | (simp only [lD_,lT_];rfl)) ?_
                  with_reducible refine (spec_l9PartsText.calls k2 a0_0 _ _ l0_1 _ _ l0_2 _ _ l0_3 _ _ ((rd_T69 l0_3 x5_2).f2) t268 _ ?side1 ?side2 ?side3 ?side4 ?side5 ?side6 ?side7 ?side8 A41.out).mono ?_
                  (case side1=>exact cZ_ HR0_1 HB)
                  (case side2=>exact HC0_1.out)
                  (case side3=>exact cZ_ HR0_2 HB)
                  (case side4=>exact HC0_2.out)
                  (case side5=>exact cZ_ HR0_3 HB)
                  (case side6=>exact HC0_3.out)
                  (case side7=>exact cZ_ HR267_2 HB)
                  (case side8=>exact HC267_2.out)
                  rintro e w45 ⟨rfl,hb⟩
                  refine ⟨_,rfl,?_⟩
                  have n0_:=aM_ (blk_below (g:=gb258) (o:=.cells #[.string a0_0,.slice A0_1 l0_1.length c0_1,.slice A0_2 l0_2.length c0_2,.slice (some ad265) l0_3.length c0_3] 35 (0,0)) (by exact kZ_ BK258) hb)
                  have n1_:=aM_ (bT_ (by exact bZ_ HB) hb)
                  clear BK258 HB
                  have BK258:=n0_
                  have HB:=n1_
                  clear n0_ n1_ hb
                  skip
                  skip
                  skip
                  refine hK.out _ _ ⟨(kC_ BK258.out 0).trans rfl,(kC_ BK258.out 1).trans rfl,(kC_ BK258.out 2).trans rfl,(kC_ BK258.out 3).trans rfl,((HB.out.cell (wL_ w _ hw266_0)).trans hw266_0),((HB.out.cell (wL_ w _ hw266_1)).trans hw266_1),((HB.out.cell (wL_ w _ hw266_2)).trans hw266_2),((HB.out.cell (wL_ w _ hw267_0)).trans hw267_0),((HB.out.cell (wL_ w _ hw267_1)).trans hw267_1),((HB.out.cell (wL_ w _ hw267_2)).trans hw267_2)⟩ (fun hHeld=>?_)
                  clear hK K
                  refine norm_ (a':=?_) ?_ ?_
                  rotate_left
                  ·show Act.put _ (some 86) _ = _
                   simp only [Act.put,sI_,sZ_,sS_,i64_w,i32_w]
                   rfl
                  refine pure_ (i:=19) (N:=some 87) (v:=?_) (a':=?_) (tb_ 20 1) rfl rfl (any_of HT_.out (by kernel_rfl)) (fun _ _ _ h=>h) (Or.inl ⟨by rfl,?_⟩) ?_ ?_
                  rotate_left
                  ·intro w'
                   go_simp
                   with_reducible rfl
                  rotate_left
                  ·simp only [Act.put,sI_,sZ_,sS_,i64_w,i32_w]
                   rfl
                  refine pure_ (i:=20) (N:=some 3) (v:=?_) (a':=?_) (tb_ 21 0) rfl rfl (any_of HT_.out (by kernel_rfl)) (fun _ _ _ h=>h) (Or.inl ⟨by rfl,?_⟩) ?_ ?_
                  rotate_left
                  ·intro w'
                   go_simp
                   with_reducible rfl
                  rotate_left
                  ·simp only [Act.put,sI_,sZ_,sS_,i64_w,i32_w]
                   rfl
                  refine done_ (done_of HT_.out (by kernel_rfl)) ?_
                  try go_wp2
                  go_roundg k2
                  case measure=>have:=HK1.out;have:=HK2.out;omega
                  case rel=>exact ⟨((((x3_2 ++ (⟨#[117,110,105,113,117,101,32]⟩ : ByteArray)) ++ ((rd_T69 l0_3 x5_2).f0)) ++ (⟨#[32]⟩ : ByteArray)) ++ t268),(wrap64 (x5_2 + 1)),(by first | rfl | (simp;done) | (simp [*];done)),(by first | rfl | (simp;done) | (simp [*];done)),H', ⟨by have:=HK1.out;have:=HK2.out;omega⟩,⟨by exact kZ_ BK258⟩,⟨by exact bZ_ HB⟩⟩
                 ·rw [if_neg c42] at H
                  exact absurd H (by simp)
                ·rw [if_neg c40] at H
                 exact absurd H (by simp)
               ·rw [if_neg c39] at H
                exact absurd H (by simp)
              ·rw [if_neg c38] at H
               exact absurd H (by simp)
             ·replace c37:=Bool.eq_false_iff.mpr c37
              subst c37
              have H1 : (if x3_2.size + 6 ≤ 9223372036854775807 then (if (x3_2 ++ (⟨#[105,110,100,101,120,32]⟩ : ByteArray)).size + ((rd_T69 l0_3 x5_2).f0).size ≤ 9223372036854775807 then (if ((x3_2 ++ (⟨#[105,110,100,101,120,32]⟩ : ByteArray)) ++ ((rd_T69 l0_3 x5_2).f0)).size + 1 ≤ 9223372036854775807 then ((spec_l9PartsText.f k2 a0_0 l0_1 l0_2 l0_3 ((rd_T69 l0_3 x5_2).f2)).bind fun t271=>(if (((x3_2 ++ (⟨#[105,110,100,101,120,32]⟩ : ByteArray)) ++ ((rd_T69 l0_3 x5_2).f0)) ++ (⟨#[32]⟩ : ByteArray)).size + t271.size ≤ 9223372036854775807 then (spec_DefText.l1 k2 ((((x3_2 ++ (⟨#[105,110,100,101,120,32]⟩ : ByteArray)) ++ ((rd_T69 l0_3 x5_2).f0)) ++ (⟨#[32]⟩ : ByteArray)) ++ t271) (wrap64 (x5_2 + 1)) a0_0 l0_1 l0_2 l0_3) else (none))) else (none)) else (none)) else (none)) = some r:=by rw [if_neg (show ¬ (false = true) by decide)] at H;exact H
              clear H
              have H:=H1
              clear H1
              by_cases c46 : x3_2.size + 6 ≤ 9223372036854775807
              ·rw [if_pos c46] at H
               have c46b0:=eq_true c46
               have c46b1 : decide (x3_2.size + 6 ≤ 9223372036854775807) = true:=decide_eq_true c46
               try have c46b2 : (9223372036854775807 < x3_2.size + 6) = False:=eq_false (Nat.not_lt.2 c46)
               by_cases c47 : (x3_2 ++ (⟨#[105,110,100,101,120,32]⟩ : ByteArray)).size + ((rd_T69 l0_3 x5_2).f0).size ≤ 9223372036854775807
               ·rw [if_pos c47] at H
                have c47b0:=eq_true c47
                have c47b1 : decide ((x3_2 ++ (⟨#[105,110,100,101,120,32]⟩ : ByteArray)).size + ((rd_T69 l0_3 x5_2).f0).size ≤ 9223372036854775807) = true:=decide_eq_true c47
                try have c47b2 : (9223372036854775807 < (x3_2 ++ (⟨#[105,110,100,101,120,32]⟩ : ByteArray)).size + ((rd_T69 l0_3 x5_2).f0).size) = False:=eq_false (Nat.not_lt.2 c47)
                have c47b3:=eq_false (Nat.not_lt.2 c47);(repeat rw [ByteArray.size_append] at c47b3);(try rw [show (⟨#[105,110,100,101,120,32]⟩ : ByteArray).size = 6 from rfl] at c47b3)
                by_cases c48 : ((x3_2 ++ (⟨#[105,110,100,101,120,32]⟩ : ByteArray)) ++ ((rd_T69 l0_3 x5_2).f0)).size + 1 ≤ 9223372036854775807
                ·rw [if_pos c48] at H
                 have c48b0:=eq_true c48
                 have c48b1 : decide (((x3_2 ++ (⟨#[105,110,100,101,120,32]⟩ : ByteArray)) ++ ((rd_T69 l0_3 x5_2).f0)).size + 1 ≤ 9223372036854775807) = true:=decide_eq_true c48
                 try have c48b2 : (9223372036854775807 < ((x3_2 ++ (⟨#[105,110,100,101,120,32]⟩ : ByteArray)) ++ ((rd_T69 l0_3 x5_2).f0)).size + 1) = False:=eq_false (Nat.not_lt.2 c48)
                 have c48b3:=eq_false (Nat.not_lt.2 c48);(repeat rw [ByteArray.size_append] at c48b3);(try rw [show (⟨#[105,110,100,101,120,32]⟩ : ByteArray).size = 6 from rfl] at c48b3)
                 replace H:=oB_ H
                 obtain ⟨t271,A490,H⟩:=H
                 replace H : (if (((x3_2 ++ (⟨#[105,110,100,101,120,32]⟩ : ByteArray)) ++ ((rd_T69 l0_3 x5_2).f0)) ++ (⟨#[32]⟩ : ByteArray)).size + t271.size ≤ 9223372036854775807 then (spec_DefText.l1 k2 ((((x3_2 ++ (⟨#[105,110,100,101,120,32]⟩ : ByteArray)) ++ ((rd_T69 l0_3 x5_2).f0)) ++ (⟨#[32]⟩ : ByteArray)) ++ t271) (wrap64 (x5_2 + 1)) a0_0 l0_1 l0_2 l0_3) else (none)) = some r:=H
                 have A49:=aM_ A490
                 clear A490
                 by_cases c50 : (((x3_2 ++ (⟨#[105,110,100,101,120,32]⟩ : ByteArray)) ++ ((rd_T69 l0_3 x5_2).f0)) ++ (⟨#[32]⟩ : ByteArray)).size + t271.size ≤ 9223372036854775807
                 ·rw [if_pos c50] at H
                  have c50b0:=eq_true c50
                  have c50b1 : decide ((((x3_2 ++ (⟨#[105,110,100,101,120,32]⟩ : ByteArray)) ++ ((rd_T69 l0_3 x5_2).f0)) ++ (⟨#[32]⟩ : ByteArray)).size + t271.size ≤ 9223372036854775807) = true:=decide_eq_true c50
                  try have c50b2 : (9223372036854775807 < (((x3_2 ++ (⟨#[105,110,100,101,120,32]⟩ : ByteArray)) ++ ((rd_T69 l0_3 x5_2).f0)) ++ (⟨#[32]⟩ : ByteArray)).size + t271.size) = False:=eq_false (Nat.not_lt.2 c50)
                  have c50b3:=eq_false (Nat.not_lt.2 c50);(repeat rw [ByteArray.size_append] at c50b3);(try rw [show (⟨#[105,110,100,101,120,32]⟩ : ByteArray).size = 6 from rfl] at c50b3);(try rw [show (⟨#[32]⟩ : ByteArray).size = 1 from rfl] at c50b3)
                  have H':=aM_ H
                  clear H
                  have hcz51_0 : wr.cell? ⟨gb258,0,none⟩ = some (.string a0_0):=(kC_ BK258.out 0).trans rfl
                  have hcz51_1 : wr.cell? ⟨gb258,1,none⟩ = some (.slice A0_1 l0_1.length c0_1):=(kC_ BK258.out 1).trans rfl
                  have hcz51_2 : wr.cell? ⟨gb258,2,none⟩ = some (.slice A0_2 l0_2.length c0_2):=(kC_ BK258.out 2).trans rfl
                  have hcz51_3 : wr.cell? ⟨gb258,3,none⟩ = some (.slice A0_3 l0_3.length c0_3):=(kC_ BK258.out 3).trans rfl
                  have hfz51_0:=kF_ BK258.out 0
                  have hfz51_1:=kF_ BK258.out 1
                  have hfz51_2:=kF_ BK258.out 2
                  have hfz51_3:=kF_ BK258.out 3
                  have p265 : 0 ≤ (x5_2 : Int):=oT_ (by first | (with_reducible assumption) | assumption)
                  have q265 : x5_2 < (l0_3.length : Int):=oT_ (by first | (with_reducible assumption) | assumption)
                  obtain ⟨ad265,A265_2,c265_2,e265,hx265_0,hx265_1,hx265_2,hl265_2,hi265_2⟩:=at_T69 HR0_3.out x5_2 p265 q265
                  (try rw [← Nbq36.out] at hx265_1)
                  cases e265
                  replace hx265_0:=(HB.out.cell (wL_ w _ hx265_0)).trans hx265_0
                  replace hx265_1:=(HB.out.cell (wL_ w _ hx265_1)).trans hx265_1
                  replace hx265_2:=(HB.out.cell (wL_ w _ hx265_2)).trans hx265_2
                  have HR265_2:=aM_ hi265_2
                  have HC265_2:=aM_ hl265_2
                  clear hi265_2 hl265_2
                  replace p265:=eq_true p265
                  replace q265:=eq_true q265
                  try go_wp2
                  have n0_:=aM_ (kD_ BK258.out)
                  have n1_:=aM_ (bD_ HB.out)
                  clear BK258 HB
                  have BK258:=n0_
                  have HB:=n1_
                  clear n0_ n1_
                  have p269 : 0 ≤ (x5_2 : Int):=oT_ (by first | (with_reducible assumption) | assumption)
                  have q269 : x5_2 < (l0_3.length : Int):=oT_ (by first | (with_reducible assumption) | assumption)
                  obtain ⟨ad269,A269_2,c269_2,e269,hx269_0,hx269_1,hx269_2,hl269_2,hi269_2⟩:=at_T69 HR0_3.out x5_2 p269 q269
                  have hw269_2:=hx269_2
                  have hw269_1:=hx269_1
                  have hw269_0:=hx269_0
                  (try rw [← Nbq36.out] at hx269_1)
                  (try rw [← Nbq36.out] at hw269_1)
                  obtain rfl : ad265 = ad269:=(by injection e269)
                  replace hx269_0:=(HB.out.cell (wL_ w _ hx269_0)).trans hx269_0
                  replace hx269_1:=(HB.out.cell (wL_ w _ hx269_1)).trans hx269_1
                  replace hx269_2:=(HB.out.cell (wL_ w _ hx269_2)).trans hx269_2
                  have HR269_2:=aM_ hi269_2
                  have HC269_2:=aM_ hl269_2
                  clear hi269_2 hl269_2
                  replace p269:=eq_true p269
                  replace q269:=eq_true q269
                  have p270 : 0 ≤ (x5_2 : Int):=oT_ (by first | (with_reducible assumption) | assumption)
                  have q270 : x5_2 < (l0_3.length : Int):=oT_ (by first | (with_reducible assumption) | assumption)
                  obtain ⟨ad270,A270_2,c270_2,e270,hx270_0,hx270_1,hx270_2,hl270_2,hi270_2⟩:=at_T69 HR0_3.out x5_2 p270 q270
                  have hw270_2:=hx270_2
                  have hw270_1:=hx270_1
                  have hw270_0:=hx270_0
                  (try rw [← Nbq36.out] at hx270_1)
                  (try rw [← Nbq36.out] at hw270_1)
                  obtain rfl : ad265 = ad270:=(by injection e270)
                  replace hx270_0:=(HB.out.cell (wL_ w _ hx270_0)).trans hx270_0
                  replace hx270_1:=(HB.out.cell (wL_ w _ hx270_1)).trans hx270_1
                  replace hx270_2:=(HB.out.cell (wL_ w _ hx270_2)).trans hx270_2
                  have HR270_2:=aM_ hi270_2
                  have HC270_2:=aM_ hl270_2
                  clear hi270_2 hl270_2
                  replace p270:=eq_true p270
                  replace q270:=eq_true q270
                  have ea_:=Option.some.inj (hx269_2.symm.trans hx270_2)
                  injection ea_ with ea_ en_ ec_
                  subst ea_
                  subst ec_
                  clear en_
                  refine start_ (n:=21) (S:=fun w'=>w'.cell? ⟨gb258,0,none⟩ = some (.string a0_0) ∧ w'.cell? ⟨gb258,1,none⟩ = some (.slice A0_1 l0_1.length c0_1) ∧ w'.cell? ⟨gb258,2,none⟩ = some (.slice A0_2 l0_2.length c0_2) ∧ w'.cell? ⟨gb258,3,none⟩ = some (.slice (some ad265) l0_3.length c0_3) ∧ w'.cell? (ad265.add ((x5_2).toNat * 3)) = some (.string ((rd_T69 l0_3 x5_2).f0)) ∧ w'.cell? ⟨(ad265.add ((x5_2).toNat * 3)).block,(ad265.add ((x5_2).toNat * 3)).off + 1,none⟩ = some (.bool (false)) ∧ w'.cell? ⟨(ad265.add ((x5_2).toNat * 3)).block,(ad265.add ((x5_2).toNat * 3)).off + 2,none⟩ = some (.slice A269_2 ((rd_T69 l0_3 x5_2).f2).length c269_2) ∧ w'.cell? (ad265.add ((x5_2).toNat * 3)) = some (.string ((rd_T69 l0_3 x5_2).f0)) ∧ w'.cell? ⟨(ad265.add ((x5_2).toNat * 3)).block,(ad265.add ((x5_2).toNat * 3)).off + 1,none⟩ = some (.bool (false)) ∧ w'.cell? ⟨(ad265.add ((x5_2).toNat * 3)).block,(ad265.add ((x5_2).toNat * 3)).off + 2,none⟩ = some (.slice A269_2 ((rd_T69 l0_3 x5_2).f2).length c269_2)) (ds:=[]) (tb_ 0 21) (by kernel_rfl) rfl rfl ⟨(kC_ BK258.out 0).trans rfl,(kC_ BK258.out 1).trans rfl,(kC_ BK258.out 2).trans rfl,(kC_ BK258.out 3).trans rfl,((HB.out.cell (wL_ w _ hw269_0)).trans hw269_0),((HB.out.cell (wL_ w _ hw269_1)).trans hw269_1),((HB.out.cell (wL_ w _ hw269_2)).trans hw269_2),((HB.out.cell (wL_ w _ hw270_0)).trans hw270_0),((HB.out.cell (wL_ w _ hw270_1)).trans hw270_1),((HB.out.cell (wL_ w _ hw270_2)).trans hw270_2)⟩ (fun hHeld=>?_);refine with_tabW spec_DefText.tab18 spec_DefText.bits18 (fun HT_ HW_=>?_)
                  generalize wr.drew = w52 at BK258 HB HR269_2 HR270_2 hx269_0 hx269_1 hx269_2 hx270_0 hx270_1 hx270_2 hHeld ⊢
                  refine pure_ (i:=0) (N:=some 68) (v:=?_) (a':=?_) (tb_ 1 20) rfl rfl (any_of HT_.out (by kernel_rfl)) (fun _ _ _ h=>h) (Or.inl ⟨by rfl,?_⟩) ?_ ?_
                  rotate_left
                  ·intro w'
                   go_simp
                   with_reducible rfl
                  rotate_left
                  ·simp only [Act.put,sI_,sZ_,sS_,i64_w,i32_w]
                   rfl
                  refine pure_ (i:=1) (N:=some 69) (v:=?_) (a':=?_) (tb_ 2 19) rfl rfl (any_of HT_.out (by kernel_rfl)) (fun _ _ _ h=>h) (Or.inl ⟨by rfl,?_⟩) ?_ ?_
                  rotate_left
                  ·intro w'
                   go_simp
                   with_reducible rfl
                  rotate_left
                  ·simp only [Act.put,sI_,sZ_,sS_,i64_w,i32_w]
                   rfl
                  refine pure_ (i:=2) (N:=some 70) (v:=?_) (a':=?_) (tb_ 3 18) rfl rfl (any_of HT_.out (by kernel_rfl)) (fun _ _ _ h=>h) (Or.inl ⟨by rfl,?_⟩) ?_ ?_
                  rotate_left
                  ·intro w'
                   go_simp
                   with_reducible rfl
                  rotate_left
                  ·simp only [Act.put,sI_,sZ_,sS_,i64_w,i32_w]
                   rfl
                  refine pure_ (i:=3) (N:=some 71) (v:=?_) (a':=?_) (tb_ 4 17) rfl rfl (any_of HT_.out (by kernel_rfl)) (fun _ _ _ h=>h) (Or.inl ⟨by rfl,?_⟩) ?_ ?_
                  rotate_left
                  ·intro w'
                   go_simp
                   with_reducible rfl
                  rotate_left
                  ·simp only [Act.put,sI_,sZ_,sS_,i64_w,i32_w]
                   rfl
                  refine pure_ (i:=5) (N:=some 73) (v:=?_) (a':=?_) #[true,true,true,true,false,true,false,false,false,false,false,false,false,false,false,false,false,false,false,false,false] rfl rfl (any_of HT_.out (by kernel_rfl)) (fun _ _ _ h=>h) (Or.inl ⟨by rfl,?_⟩) ?_ ?_
                  rotate_left
                  ·intro w'
                   go_simp
                   with_reducible rfl
                  rotate_left
                  ·simp only [Act.put,sI_,sZ_,sS_,i64_w,i32_w]
                   rfl
                  refine pure_ (i:=12) (N:=some 80) (v:=?_) (a':=?_) #[true,true,true,true,false,true,false,false,false,false,false,false,true,false,false,false,false,false,false,false,false] rfl rfl (any_of HT_.out (by kernel_rfl)) (fun _ _ _ h=>h) (Or.inl ⟨by rfl,?_⟩) ?_ ?_
                  rotate_left
                  ·intro w'
                   go_simp
                   with_reducible rfl
                  rotate_left
                  ·simp only [Act.put,sI_,sZ_,sS_,i64_w,i32_w]
                   rfl
                  refine pure_ (i:=14) (N:=some 82) (v:=?_) (a':=?_) #[true,true,true,true,false,true,false,false,false,false,false,false,true,false,true,false,false,false,false,false,false] rfl rfl (any_of HT_.out (by kernel_rfl)) (fun _ _ _ h=>h) (Or.inl ⟨by rfl,?_⟩) ?_ ?_
                  rotate_left
                  ·intro w'
                   go_simp
                   with_reducible rfl
                  rotate_left
                  ·simp only [Act.put,sI_,sZ_,sS_,i64_w,i32_w]
                   rfl
                  refine take_ (i:=4) (N:=some 72) (v:=?_) (a':=?_) #[true,true,true,true,true,true,false,false,false,false,false,false,true,false,true,false,false,false,false,false,false] rfl rfl (take_ofW HT_.out HW_.out (by kernel_rfl)) (fun _ _ _ h=>h) (Or.inl ⟨by rfl,?_⟩) hHeld ?_ ?_
                  rotate_left
                  ·rintro w' ⟨s0,s1,s2,s3,s4,s5,s6,s7,s8,s9⟩
                   go_simp
                   with_reducible rfl
                  rotate_left
                  ·simp only [Act.put,sI_,sZ_,sS_,i64_w,i32_w]
                   rfl
                  refine pure_ (i:=6) (N:=some 74) (v:=?_) (a':=?_) #[true,true,true,true,true,true,true,false,false,false,false,false,true,false,true,false,false,false,false,false,false] rfl rfl (any_of HT_.out (by kernel_rfl)) (fun _ _ _ h=>h) (Or.inl ⟨by rfl,?_⟩) ?_ ?_
                  rotate_left
                  ·intro w'
                   go_simp
                   with_reducible rfl
                  rotate_left
                  ·simp only [Act.put,sI_,sZ_,sS_,i64_w,i32_w]
                   rfl
                  refine pure_ (i:=7) (N:=some 75) (v:=?_) (a':=?_) #[true,true,true,true,true,true,true,true,false,false,false,false,true,false,true,false,false,false,false,false,false] rfl rfl (any_of HT_.out (by kernel_rfl)) (fun _ _ _ h=>h) (Or.inl ⟨by rfl,?_⟩) ?_ ?_
                  rotate_left
                  ·intro w'
                   go_simp
                   with_reducible rfl
                  rotate_left
                  ·simp only [Act.put,sI_,sZ_,sS_,i64_w,i32_w]
                   rfl
                  refine take_ (i:=8) (N:=some 76) (v:=?_) (a':=?_) #[true,true,true,true,true,true,true,true,true,false,false,false,true,false,true,false,false,false,false,false,false] rfl rfl (take_ofW HT_.out HW_.out (by kernel_rfl)) (fun _ _ _ h=>h) (Or.inl ⟨by rfl,?_⟩) hHeld ?_ ?_
                  rotate_left
                  ·rintro w' ⟨s0,s1,s2,s3,s4,s5,s6,s7,s8,s9⟩
                   go_simp
                   with_reducible rfl
                  rotate_left
                  ·simp only [Act.put,sI_,sZ_,sS_,i64_w,i32_w]
                   rfl
                  refine pure_ (i:=9) (N:=some 77) (v:=?_) (a':=?_) #[true,true,true,true,true,true,true,true,true,true,false,false,true,false,true,false,false,false,false,false,false] rfl rfl (any_of HT_.out (by kernel_rfl)) (fun _ _ _ h=>h) (Or.inl ⟨by rfl,?_⟩) ?_ ?_
                  rotate_left
                  ·intro w'
                   go_simp
                   with_reducible rfl
                  rotate_left
                  ·simp only [Act.put,sI_,sZ_,sS_,i64_w,i32_w]
                   rfl
                  refine pure_ (i:=10) (N:=some 78) (v:=?_) (a':=?_) #[true,true,true,true,true,true,true,true,true,true,true,false,true,false,true,false,false,false,false,false,false] rfl rfl (any_of HT_.out (by kernel_rfl)) (fun _ _ _ h=>h) (Or.inl ⟨by rfl,?_⟩) ?_ ?_
                  rotate_left
                  ·intro w'
                   go_simp
                   with_reducible rfl
                  rotate_left
                  ·simp only [Act.put,sI_,sZ_,sS_,i64_w,i32_w]
                   rfl
                  refine take_ (i:=11) (N:=some 79) (v:=?_) (a':=?_) #[true,true,true,true,true,true,true,true,true,true,true,true,true,false,true,false,false,false,false,false,false] rfl rfl (take_ofW HT_.out HW_.out (by kernel_rfl)) (fun _ _ _ h=>h) (Or.inl ⟨by rfl,?_⟩) hHeld ?_ ?_
                  rotate_left
                  ·rintro w' ⟨s0,s1,s2,s3,s4,s5,s6,s7,s8,s9⟩
                   go_simp
                   with_reducible rfl
                  rotate_left
                  ·simp only [Act.put,sI_,sZ_,sS_,i64_w,i32_w]
                   rfl
                  refine take_ (i:=13) (N:=some 81) (v:=?_) (a':=?_) (tb_ 15 6) rfl rfl (take_ofW HT_.out HW_.out (by kernel_rfl)) (fun _ _ _ h=>h) (Or.inl ⟨by rfl,?_⟩) hHeld ?_ ?_
                  rotate_left
                  ·rintro w' ⟨s0,s1,s2,s3,s4,s5,s6,s7,s8,s9⟩
                   go_simp
                   with_reducible rfl
                  rotate_left
                  ·simp only [Act.put,sI_,sZ_,sS_,i64_w,i32_w]
                   rfl
                  refine pure_ (i:=15) (N:=some 83) (v:=?_) (a':=?_) (tb_ 16 5) rfl rfl (any_of HT_.out (by kernel_rfl)) (fun _ _ _ h=>h) (Or.inl ⟨by rfl,?_⟩) ?_ ?_
                  rotate_left
                  ·intro w'
                   go_simp
                   with_reducible rfl
                  rotate_left
                  ·simp only [Act.put,sI_,sZ_,sS_,i64_w,i32_w]
                   rfl
                  refine pure_ (i:=16) (N:=some 84) (v:=?_) (a':=?_) (tb_ 17 4) rfl rfl (any_of HT_.out (by kernel_rfl)) (fun _ _ _ h=>h) (Or.inl ⟨by rfl,?_⟩) ?_ ?_
                  rotate_left
                  ·intro w'
                   go_simp
                   with_reducible rfl
                  rotate_left
                  ·simp only [Act.put,sI_,sZ_,sS_,i64_w,i32_w]
                   rfl
                  refine take_ (i:=17) (N:=some 85) (v:=?_) (a':=?_) (tb_ 18 3) rfl rfl (take_ofW HT_.out HW_.out (by kernel_rfl)) (fun _ _ _ h=>h) (Or.inl ⟨by rfl,?_⟩) hHeld ?_ ?_
                  rotate_left
                  ·rintro w' ⟨s0,s1,s2,s3,s4,s5,s6,s7,s8,s9⟩
                   go_simp
                   with_reducible rfl
                  rotate_left
                  ·simp only [Act.put,sI_,sZ_,sS_,i64_w,i32_w]
                   rfl
                  refine one_ (i:=18) (N:=some 86) (tb_ 19 2) rfl rfl (one_of HT_.out (by kernel_rfl)) (by decide) (fun K hK=>?_)
                  refine goes_ Tryd.func67 (by kernel_rfl) rfl #[.agg #[.string a0_0,.slice A0_1 l0_1.length c0_1,.slice A0_2 l0_2.length c0_2,.slice (some ad265) l0_3.length c0_3],.slice A269_2 ((rd_T69 l0_3 x5_2).f2).length c269_2] (by rfl) rfl rfl (by (try simp only [mA_,mC_,mN_]);first | done | rfl | (simp only [lD_,lT_];rfl)) ?_
                  with_reducible refine (spec_l9PartsText.calls k2 a0_0 _ _ l0_1 _ _ l0_2 _ _ l0_3 _ _ ((rd_T69 l0_3 x5_2).f2) t271 _ ?side1 ?side2 ?side3 ?side4 ?side5 ?side6 ?side7 ?side8 A49.out).mono ?_
                  (case side1=>exact cZ_ HR0_1 HB)
                  (case side2=>exact HC0_1.out)
                  (case side3=>exact cZ_ HR0_2 HB)
                  (case side4=>exact HC0_2.out)
                  (case side5=>exact cZ_ HR0_3 HB)
                  (case side6=>exact HC0_3.out)
                  (case side7=>exact cZ_ HR270_2 HB)
                  (case side8=>exact HC270_2.out)
                  rintro e w53 ⟨rfl,hb⟩
                  refine ⟨_,rfl,?_⟩
                  have n0_:=aM_ (blk_below (g:=gb258) (o:=.cells #[.string a0_0,.slice A0_1 l0_1.length c0_1,.slice A0_2 l0_2.length c0_2,.slice (some ad265) l0_3.length c0_3] 35 (0,0)) (by exact kZ_ BK258) hb)
                  have n1_:=aM_ (bT_ (by exact bZ_ HB) hb)
                  clear BK258 HB
                  have BK258:=n0_
                  have HB:=n1_
                  clear n0_ n1_ hb
                  skip
                  skip
                  skip
                  refine hK.out _ _ ⟨(kC_ BK258.out 0).trans rfl,(kC_ BK258.out 1).trans rfl,(kC_ BK258.out 2).trans rfl,(kC_ BK258.out 3).trans rfl,((HB.out.cell (wL_ w _ hw269_0)).trans hw269_0),((HB.out.cell (wL_ w _ hw269_1)).trans hw269_1),((HB.out.cell (wL_ w _ hw269_2)).trans hw269_2),((HB.out.cell (wL_ w _ hw270_0)).trans hw270_0),((HB.out.cell (wL_ w _ hw270_1)).trans hw270_1),((HB.out.cell (wL_ w _ hw270_2)).trans hw270_2)⟩ (fun hHeld=>?_)
                  clear hK K
                  refine norm_ (a':=?_) ?_ ?_
                  rotate_left
                  ·show Act.put _ (some 86) _ = _
                   simp only [Act.put,sI_,sZ_,sS_,i64_w,i32_w]
                   rfl
                  refine pure_ (i:=19) (N:=some 87) (v:=?_) (a':=?_) (tb_ 20 1) rfl rfl (any_of HT_.out (by kernel_rfl)) (fun _ _ _ h=>h) (Or.inl ⟨by rfl,?_⟩) ?_ ?_
                  rotate_left
                  ·intro w'
                   go_simp
                   with_reducible rfl
                  rotate_left
                  ·simp only [Act.put,sI_,sZ_,sS_,i64_w,i32_w]
                   rfl
                  refine pure_ (i:=20) (N:=some 3) (v:=?_) (a':=?_) (tb_ 21 0) rfl rfl (any_of HT_.out (by kernel_rfl)) (fun _ _ _ h=>h) (Or.inl ⟨by rfl,?_⟩) ?_ ?_
                  rotate_left
                  ·intro w'
                   go_simp
                   with_reducible rfl
                  rotate_left
                  ·simp only [Act.put,sI_,sZ_,sS_,i64_w,i32_w]
                   rfl
                  refine done_ (done_of HT_.out (by kernel_rfl)) ?_
                  try go_wp2
                  go_roundg k2
                  case measure=>have:=HK1.out;have:=HK2.out;omega
                  case rel=>exact ⟨((((x3_2 ++ (⟨#[105,110,100,101,120,32]⟩ : ByteArray)) ++ ((rd_T69 l0_3 x5_2).f0)) ++ (⟨#[32]⟩ : ByteArray)) ++ t271),(wrap64 (x5_2 + 1)),(by first | rfl | (simp;done) | (simp [*];done)),(by first | rfl | (simp;done) | (simp [*];done)),H', ⟨by have:=HK1.out;have:=HK2.out;omega⟩,⟨by exact kZ_ BK258⟩,⟨by exact bZ_ HB⟩⟩
                 ·rw [if_neg c50] at H
                  exact absurd H (by simp)
                ·rw [if_neg c48] at H
                 exact absurd H (by simp)
               ·rw [if_neg c47] at H
                exact absurd H (by simp)
              ·rw [if_neg c46] at H
               exact absurd H (by simp)
            ·rw [if_neg c35] at H
             exact absurd H (by simp)
           ·rw [if_neg c34] at H
            have c34b0 : decide (x5_2 < (l0_3.length : Int)) = false:=decide_eq_false c34
            clear c34
            by_cases c54 : x3_2.size + 1 ≤ 9223372036854775807
            ·rw [if_pos c54] at H
             have c54b0:=eq_true c54
             have c54b1 : decide (x3_2.size + 1 ≤ 9223372036854775807) = true:=decide_eq_true c54
             try have c54b2 : (9223372036854775807 < x3_2.size + 1) = False:=eq_false (Nat.not_lt.2 c54)
             obtain rfl:=Option.some.inj H
             have hcz55_0 : wr.cell? ⟨gb258,0,none⟩ = some (.string a0_0):=(kC_ BK258.out 0).trans rfl
             have hcz55_1 : wr.cell? ⟨gb258,1,none⟩ = some (.slice A0_1 l0_1.length c0_1):=(kC_ BK258.out 1).trans rfl
             have hcz55_2 : wr.cell? ⟨gb258,2,none⟩ = some (.slice A0_2 l0_2.length c0_2):=(kC_ BK258.out 2).trans rfl
             have hcz55_3 : wr.cell? ⟨gb258,3,none⟩ = some (.slice A0_3 l0_3.length c0_3):=(kC_ BK258.out 3).trans rfl
             have hfz55_0:=kF_ BK258.out 0
             have hfz55_1:=kF_ BK258.out 1
             have hfz55_2:=kF_ BK258.out 2
             have hfz55_3:=kF_ BK258.out 3
             go_wp2
             go_ret
             exact ⟨by first | rfl | (simp [errW_none,errW_some] <;> rfl) | (simp [*, errW_none,errW_some] <;> rfl),by exact bZ_ HB⟩
            ·rw [if_neg c54] at H
             exact absurd H (by simp)
        ·rw [if_neg c31] at H
         exact absurd H (by simp)
       ·rw [if_neg c29] at H
        exact absurd H (by simp)
   ·rw [if_neg c5] at H
    exact absurd H (by simp)
  ·rw [if_neg c4] at H
   exact absurd H (by simp)
 ·rw [if_neg c3] at H
  have c3b0 : (t259 == 0) = false:=beq_eq_false_iff_ne.mpr c3
  have c3b1 : (t259 != 0) = true:=bne_iff_ne.mpr c3
  obtain rfl:=Option.some.inj H
  go_enter Tryd.func25,Tryd.ntmps25
  go_wp2_with (first | ((with_reducible refine gate_dst (N:=1) rfl ?_);refine box_event ?hg (N:=1) ?hd (cs:=#[.string a0_0,.slice A0_1 l0_1.length c0_1,.slice A0_2 l0_2.length c0_2,.slice A0_3 l0_3.length c0_3]) (t:=35) ?hr ?_;(case hd=>rfl);(case hg=>rfl);(case hr=>first | (go_simp;done) | (go_simp;rfl));intro gb258 hg w56 hbox hb;have n0_:=aM_ (bT_ (by exact bZ_ HB) hb);have n1_:=aM_ (hbox);have n2_:=aM_ ((by rw [hg];exact (bS_ (by exact bZ_ HB)) : w.heap.size ≤ gb258));have n3_:=aM_ ((by rw [hg];exact (bS_ (by exact bZ_ HB)) : w.heap.size ≤ gb258));clear HB;have HB:=n0_;have BK258:=n1_;have GW258:=n2_;have GE258:=n3_;clear n0_ n1_ n2_ n3_ hb hbox hg;have hcz57_0 : w56.cell? ⟨gb258,0,none⟩ = some (.string a0_0):=(kC_ BK258.out 0).trans rfl;have hcz57_1 : w56.cell? ⟨gb258,1,none⟩ = some (.slice A0_1 l0_1.length c0_1):=(kC_ BK258.out 1).trans rfl;have hcz57_2 : w56.cell? ⟨gb258,2,none⟩ = some (.slice A0_2 l0_2.length c0_2):=(kC_ BK258.out 2).trans rfl;have hcz57_3 : w56.cell? ⟨gb258,3,none⟩ = some (.slice A0_3 l0_3.length c0_3):=(kC_ BK258.out 3).trans rfl;have hfz57_0:=kF_ BK258.out 0;have hfz57_1:=kF_ BK258.out 1;have hfz57_2:=kF_ BK258.out 2;have hfz57_3:=kF_ BK258.out 3) | ((with_reducible refine gate_callee (f:=23) rfl ?_);refine goesL_ (some 8) rfl rfl Tryd.func23 (by kernel_rfl) rfl #[.agg #[.string a0_0,.slice A0_1 l0_1.length c0_1,.slice A0_2 l0_2.length c0_2,.slice A0_3 l0_3.length c0_3]] rfl (by (try simp only [mA_,mC_,mN_]);first | done | rfl | (simp only [lD_,lT_];rfl)) ?_;(with_reducible refine (spec_CheckDef.calls k a0_0 _ _ l0_1 _ _ l0_2 _ _ l0_3 t259 _ ?side1 ?side2 ?side3 ?side4 ?side5 ?side6 A2.out).mono ?_);(case side1=>exact cZ_ HR0_1 HB);(case side2=>exact HC0_1.out);(case side3=>exact cZ_ HR0_2 HB);(case side4=>exact HC0_2.out);(case side5=>exact cZ_ HR0_3 HB);(case side6=>exact HC0_3.out);rintro e w58 ⟨rfl,hb⟩;refine ⟨_,rfl,?_⟩;have n0_:=aM_ (blk_below (g:=gb258) (o:=.cells #[.string a0_0,.slice A0_1 l0_1.length c0_1,.slice A0_2 l0_2.length c0_2,.slice A0_3 l0_3.length c0_3] 35 (0,0)) (by exact kZ_ BK258) hb);have n1_:=aM_ (bT_ (by exact bZ_ HB) hb);clear BK258 HB;have BK258:=n0_;have HB:=n1_;clear n0_ n1_ hb))
  go_ret
  exact ⟨by first | rfl | (simp [errW_none,errW_some] <;> rfl) | (simp [*, errW_none,errW_some] <;> rfl),by exact bZ_ HB⟩
end Go.Proofs.YtipehkeabnfngaaDoor.PFnExactDefsText
