import Derived.Test.YtllgmgpfdnofmaaZSDPFnExactSameDefx0
import Derived.Test.YtllgmgpfdnofmaaZSDPFnExactSameDefx1
import Derived.Test.YtllgmgpfdnofmaaZSDPFnExactSameDefx5
namespace Go.Proofs.Ytllgmgpfdnofmaa.PFnExactSameDef
open Go.RowKit Go.Proofs.YtllgmgpfdnofmaaW.PrintWords Go.Proofs.YtllgmgpfdnofmaaW.PrintLast Go.Proofs.YtllgmgpfdnofmaaW.PrintMore Go.Proofs.Ytllgmgpfdnofmaa.Xtra
attribute [local go_sem] max2_int min2_int max_two min_two max_three min_three max_four min_four str_leq str_gtr str_geq setCell_drewN cell_set2 cell_set3   -- for this text's walks alone
set_option linter.unusedVariables false
set_option linter.unusedSimpArgs false
attribute [local go_sem high] eqA146
mutual
def impl_SameDef.j0 : Nat → Bool → ByteArray → List (S146) → List (S184) → List (S148) → ByteArray → List (S146) → List (S184) → List (S148) → Option (Bool)
 | 0,_,_,_,_,_,_,_,_,_=>none
 | k + 1,x39,x176000,x176001,x176002,x176003,x177000,x177001,x177002,x177003=>if x39 = true then (some false) else (impl_SameDef.l0 k (x176001.length : Int) 0 x176000 x176001 x176002 x176003 x177000 x177001 x177002 x177003)
def impl_SameDef.l0 : Nat → Int → Int → ByteArray → List (S146) → List (S184) → List (S148) → ByteArray → List (S146) → List (S184) → List (S148) → Option (Bool)
 | 0,_,_,_,_,_,_,_,_,_,_=>none
 | k + 1,x42,x43,x176000,x176001,x176002,x176003,x177000,x177001,x177002,x177003=>if x43 < x42 then (if 0 ≤ x43 then (if x43 < (x176001.length : Int) then (if x43 < (x177001.length : Int) then (if (!((((rd_T146 x176001 x43).f0).toList) == (((rd_T146 x177001 x43).f0).toList)) || (!(((rd_T146 x176001 x43).f1) == ((rd_T146 x177001 x43).f1)) || (!(((rd_T146 x176001 x43).f2) == ((rd_T146 x177001 x43).f2))))) = true then (some false) else (impl_SameDef.l0 k x42 (wrap64 (x43 + 1)) x176000 x176001 x176002 x176003 x177000 x177001 x177002 x177003)) else (none)) else (none)) else (none)) else (impl_SameDef.l1 k (x176003.length : Int) 0 x176000 x176001 x176002 x176003 x177000 x177001 x177002 x177003)
def impl_SameDef.l1 : Nat → Int → Int → ByteArray → List (S146) → List (S184) → List (S148) → ByteArray → List (S146) → List (S184) → List (S148) → Option (Bool)
 | 0,_,_,_,_,_,_,_,_,_,_=>none
 | k + 1,x60,x61,x176000,x176001,x176002,x176003,x177000,x177001,x177002,x177003=>if x61 < x60 then (if 0 ≤ x61 then (if x61 < (x176003.length : Int) then (if x61 < (x177003.length : Int) then (if ((rd_T148 x176003 x61).f0).toList = ((rd_T148 x177003 x61).f0).toList then (if (((rd_T148 x176003 x61).f1) != ((rd_T148 x177003 x61).f1)) = true then (some false) else ((impl_sameParts.f k ((rd_T148 x176003 x61).f2) ((rd_T148 x177003 x61).f2)).bind fun t184=>(if t184 = true then (impl_SameDef.l1 k x60 (wrap64 (x61 + 1)) x176000 x176001 x176002 x176003 x177000 x177001 x177002 x177003) else (some false)))) else (some false)) else (none)) else (none)) else (none)) else (some true)
end
def impl_SameDef.f (k : Nat) (a0_0 : ByteArray) (l0_1 : List (S146)) (l0_2 : List (S184)) (l0_3 : List (S148)) (a1_0 : ByteArray) (l1_1 : List (S146)) (l1_2 : List (S184)) (l1_3 : List (S148)) : Option (Bool):=if a0_0.toList = a1_0.toList then (if (l0_1.length : Int) = (l1_1.length : Int) then (if (l0_3.length : Int) = (l1_3.length : Int) then ((impl_sameParts.f k l0_2 l1_2).bind fun t177=>(impl_SameDef.j0 k (!t177) a0_0 l0_1 l0_2 l0_3 a1_0 l1_1 l1_2 l1_3)) else (impl_SameDef.j0 k true a0_0 l0_1 l0_2 l0_3 a1_0 l1_1 l1_2 l1_3)) else (impl_SameDef.j0 k true a0_0 l0_1 l0_2 l0_3 a1_0 l1_1 l1_2 l1_3)) else (impl_SameDef.j0 k true a0_0 l0_1 l0_2 l0_3 a1_0 l1_1 l1_2 l1_3)
theorem impl_SameDef.mono_l : ∀ k,(∀ y0 y1 y2 y3 y4 y5 y6 y7 y8,LeO (impl_SameDef.j0 k y0 y1 y2 y3 y4 y5 y6 y7 y8) (impl_SameDef.j0 (k + 1) y0 y1 y2 y3 y4 y5 y6 y7 y8)) ∧ (∀ y0 y1 y2 y3 y4 y5 y6 y7 y8 y9,LeO (impl_SameDef.l0 k y0 y1 y2 y3 y4 y5 y6 y7 y8 y9) (impl_SameDef.l0 (k + 1) y0 y1 y2 y3 y4 y5 y6 y7 y8 y9)) ∧ (∀ y0 y1 y2 y3 y4 y5 y6 y7 y8 y9,LeO (impl_SameDef.l1 k y0 y1 y2 y3 y4 y5 y6 y7 y8 y9) (impl_SameDef.l1 (k + 1) y0 y1 y2 y3 y4 y5 y6 y7 y8 y9))
 | 0=>⟨fun _ _ _ _ _ _ _ _ _ r h=>by simp [impl_SameDef.j0] at h,fun _ _ _ _ _ _ _ _ _ _ r h=>by simp [impl_SameDef.l0] at h,fun _ _ _ _ _ _ _ _ _ _ r h=>by simp [impl_SameDef.l1] at h⟩
 | k + 1=>by
  obtain ⟨ih0,ih1,ih2⟩:=impl_SameDef.mono_l k
  refine ⟨?_,?_,?_⟩
  ·intro y0 y1 y2 y3 y4 y5 y6 y7 y8
   unfold impl_SameDef.j0
   repeat' first
   | (with_reducible exact ih0 _ _ _ _ _ _ _ _ _)
   | (with_reducible exact ih1 _ _ _ _ _ _ _ _ _ _)
   | (with_reducible exact ih2 _ _ _ _ _ _ _ _ _ _)
   | (with_reducible exact impl_sameParts.mono _ _ _)
   | (with_reducible exact LeO.refl _)
   | (with_reducible exact LeO.none _)
   | (with_reducible refine LeO.ite ?_ ?_)
   | (with_reducible refine LeO.bind ?_ (fun _=>?_))
   | exact ih0 _ _ _ _ _ _ _ _ _
   | exact ih1 _ _ _ _ _ _ _ _ _ _
   | exact ih2 _ _ _ _ _ _ _ _ _ _
   | exact impl_sameParts.mono _ _ _
   | exact LeO.none _
   | refine LeO.ite ?_ ?_
   | refine LeO.bind ?_ (fun _=>?_)
  ·intro y0 y1 y2 y3 y4 y5 y6 y7 y8 y9
   unfold impl_SameDef.l0
   repeat' first
   | (with_reducible exact ih0 _ _ _ _ _ _ _ _ _)
   | (with_reducible exact ih1 _ _ _ _ _ _ _ _ _ _)
   | (with_reducible exact ih2 _ _ _ _ _ _ _ _ _ _)
   | (with_reducible exact impl_sameParts.mono _ _ _)
   | (with_reducible exact LeO.refl _)
   | (with_reducible exact LeO.none _)
   | (with_reducible refine LeO.ite ?_ ?_)
   | (with_reducible refine LeO.bind ?_ (fun _=>?_))
   | exact ih0 _ _ _ _ _ _ _ _ _
   | exact ih1 _ _ _ _ _ _ _ _ _ _
   | exact ih2 _ _ _ _ _ _ _ _ _ _
   | exact impl_sameParts.mono _ _ _
   | exact LeO.none _
   | refine LeO.ite ?_ ?_
   | refine LeO.bind ?_ (fun _=>?_)
  ·intro y0 y1 y2 y3 y4 y5 y6 y7 y8 y9
   unfold impl_SameDef.l1
   repeat' first
   | (with_reducible exact ih0 _ _ _ _ _ _ _ _ _)
   | (with_reducible exact ih1 _ _ _ _ _ _ _ _ _ _)
   | (with_reducible exact ih2 _ _ _ _ _ _ _ _ _ _)
   | (with_reducible exact impl_sameParts.mono _ _ _)
   | (with_reducible exact LeO.refl _)
   | (with_reducible exact LeO.none _)
   | (with_reducible refine LeO.ite ?_ ?_)
   | (with_reducible refine LeO.bind ?_ (fun _=>?_))
   | exact ih0 _ _ _ _ _ _ _ _ _
   | exact ih1 _ _ _ _ _ _ _ _ _ _
   | exact ih2 _ _ _ _ _ _ _ _ _ _
   | exact impl_sameParts.mono _ _ _
   | exact LeO.none _
   | refine LeO.ite ?_ ?_
   | refine LeO.bind ?_ (fun _=>?_)
theorem impl_SameDef.mono : ∀ a0 a1 a2 a3 a4 a5 a6 a7 k,LeO (impl_SameDef.f k a0 a1 a2 a3 a4 a5 a6 a7) (impl_SameDef.f (k + 1) a0 a1 a2 a3 a4 a5 a6 a7):=by
 intro a0 a1 a2 a3 a4 a5 a6 a7 k
 obtain ⟨ih0,ih1,ih2⟩:=impl_SameDef.mono_l k
 unfold impl_SameDef.f
 repeat' first
   | (with_reducible exact ih0 _ _ _ _ _ _ _ _ _)
   | (with_reducible exact ih1 _ _ _ _ _ _ _ _ _ _)
   | (with_reducible exact ih2 _ _ _ _ _ _ _ _ _ _)
   | (with_reducible exact impl_sameParts.mono _ _ _)
   | (with_reducible exact LeO.refl _)
   | (with_reducible exact LeO.none _)
   | (with_reducible refine LeO.ite ?_ ?_)
   | (with_reducible refine LeO.bind ?_ (fun _=>?_))
   | exact ih0 _ _ _ _ _ _ _ _ _
   | exact ih1 _ _ _ _ _ _ _ _ _ _
   | exact ih2 _ _ _ _ _ _ _ _ _ _
   | exact impl_sameParts.mono _ _ _
   | exact LeO.none _
   | refine LeO.ite ?_ ?_
   | refine LeO.bind ?_ (fun _=>?_)
def impl_SameDef.T6 : Bool × List (List Nat × List Nat):=(true,[([],[]),([0],[0]),([],[]),([1,2],[1,2]),([3],[3]),([],[]),([5],[5]),([],[]),([6,7],[6,7]),([8],[8]),([4,9],[4,9])])
def impl_SameDef.B6 : List Nat:=[0,1,0,7,15,0,32,0,224,480,1023]
theorem impl_SameDef.tab6 : rtab .any (opsOf Try.f64 6) = impl_SameDef.T6:=by kernel_rfl
theorem impl_SameDef.bits6 : waitsOk impl_SameDef.T6.2 impl_SameDef.B6 = true:=by kernel_rfl
def impl_SameDef.T12 : Bool × List (List Nat × List Nat):=(true,[([],[]),([0],[0]),([],[]),([1,2],[1,2]),([3],[3]),([],[]),([5],[5]),([],[]),([6,7],[6,7]),([8],[8]),([],[]),([],[]),([10,4,0,1,2,3,4,10,11],[4,10]),([11,9,12,0,1,2,3,4,5,6,7,8,9,10,11,12],[9,11])])
def impl_SameDef.B12 : List Nat:=[0,1,0,7,15,0,32,0,224,480,0,0,3103,8191]
theorem impl_SameDef.tab12 : rtab .any (opsOf Try.f64 12) = impl_SameDef.T12:=by kernel_rfl
theorem impl_SameDef.bits12 : waitsOk impl_SameDef.T12.2 impl_SameDef.B12 = true:=by kernel_rfl
set_option maxHeartbeats 8000000 in
set_option maxRecDepth 100000 in
theorem impl_SameDef.calls (k : Nat) (a0_0 : ByteArray) (A0_1 : Option Addr) (c0_1 : Nat) (l0_1 : List (S146)) (A0_2 : Option Addr) (c0_2 : Nat) (l0_2 : List (S184)) (A0_3 : Option Addr) (c0_3 : Nat) (l0_3 : List (S148)) (a1_0 : ByteArray) (A1_1 : Option Addr) (c1_1 : Nat) (l1_1 : List (S146)) (A1_2 : Option Addr) (c1_2 : Nat) (l1_2 : List (S184)) (A1_3 : Option Addr) (c1_3 : Nat) (l1_3 : List (S148)) (r : Bool) (w : World) (hr0_1 : Kd.C k146 w A0_1 l0_1.length l0_1) (hc0_1 : l0_1.length ≤ c0_1) (hr0_2 : Kd.C k184 w A0_2 l0_2.length l0_2) (hc0_2 : l0_2.length ≤ c0_2) (hr0_3 : Kd.C k148 w A0_3 l0_3.length l0_3) (hc0_3 : l0_3.length ≤ c0_3) (hr1_1 : Kd.C k146 w A1_1 l1_1.length l1_1) (hc1_1 : l1_1.length ≤ c1_1) (hr1_2 : Kd.C k184 w A1_2 l1_2.length l1_2) (hc1_2 : l1_2.length ≤ c1_2) (hr1_3 : Kd.C k148 w A1_3 l1_3.length l1_3) (hc1_3 : l1_3.length ≤ c1_3) (h : impl_SameDef.f k a0_0 l0_1 l0_2 l0_3 a1_0 l1_1 l1_2 l1_3 = some r) :
  Calls Try.prog 64 #[.agg #[.string a0_0,.slice A0_1 l0_1.length c0_1,.slice A0_2 l0_2.length c0_2,.slice A0_3 l0_3.length c0_3],.agg #[.string a1_0,.slice A1_1 l1_1.length c1_1,.slice A1_2 l1_2.length c1_2,.slice A1_3 l1_3.length c1_3]] w fun e w'=>e = .returned (.bool r) ∧ Below w.heap.size w w':=by
 have hu87:=Try.underlying87
 have hu146:=Try.underlying146
 have hu148:=Try.underlying148
 have HR0_1:=aM_ hr0_1
 have HC0_1:=aM_ hc0_1
 clear hr0_1 hc0_1
 have HR0_2:=aM_ hr0_2
 have HC0_2:=aM_ hc0_2
 clear hr0_2 hc0_2
 have HR0_3:=aM_ hr0_3
 have HC0_3:=aM_ hc0_3
 clear hr0_3 hc0_3
 have HR1_1:=aM_ hr1_1
 have HC1_1:=aM_ hc1_1
 clear hr1_1 hc1_1
 have HR1_2:=aM_ hr1_2
 have HC1_2:=aM_ hc1_2
 clear hr1_2 hc1_2
 have HR1_3:=aM_ hr1_3
 have HC1_3:=aM_ hc1_3
 clear hr1_3 hc1_3
 have HB:=aM_ (Below.refl w.heap.size w)
 have H : (if a0_0.toList = a1_0.toList then (if (l0_1.length : Int) = (l1_1.length : Int) then (if (l0_3.length : Int) = (l1_3.length : Int) then ((impl_sameParts.f k l0_2 l1_2).bind fun t177=>(impl_SameDef.j0 k (!t177) a0_0 l0_1 l0_2 l0_3 a1_0 l1_1 l1_2 l1_3)) else (impl_SameDef.j0 k true a0_0 l0_1 l0_2 l0_3 a1_0 l1_1 l1_2 l1_3)) else (impl_SameDef.j0 k true a0_0 l0_1 l0_2 l0_3 a1_0 l1_1 l1_2 l1_3)) else (impl_SameDef.j0 k true a0_0 l0_1 l0_2 l0_3 a1_0 l1_1 l1_2 l1_3)) = some r:=h
 clear h
 have HC3:=aM_ H
 clear H
 go_enter Try.func64,Try.ntmps64
 go_upto_region 1 with (first | ((with_reducible refine gate_dst (N:=2) rfl ?_);(try (refine gate_guard (by rfl) ?_;dsimp only));refine box_event ?hg (N:=2) ?hd (cs:=#[.string a0_0,.slice A0_1 l0_1.length c0_1,.slice A0_2 l0_2.length c0_2,.slice A0_3 l0_3.length c0_3]) (t:=87) ?hr ?_;(case hd=>rfl);(case hg=>rfl);(case hr=>first | (go_simp;done) | (go_simp;rfl));intro gb175 hg w4 hbox hb;have n0_:=aM_ (bT_ (by exact bZ_ HB) hb);have n1_:=aM_ (hbox);have n2_:=aM_ ((by rw [hg];exact (bS_ (by exact bZ_ HB)) : w.heap.size ≤ gb175));have n3_:=aM_ ((by rw [hg];exact (bS_ (by exact bZ_ HB)) : w.heap.size ≤ gb175));clear HB;have HB:=n0_;have BK175:=n1_;have GW175:=n2_;have GE175:=n3_;clear n0_ n1_ n2_ n3_ hb hbox hg) | ((with_reducible refine gate_dst (N:=3) rfl ?_);(try (refine gate_guard (by rfl) ?_;dsimp only));refine box_event ?hg (N:=3) ?hd (cs:=#[.string a1_0,.slice A1_1 l1_1.length c1_1,.slice A1_2 l1_2.length c1_2,.slice A1_3 l1_3.length c1_3]) (t:=87) ?hr ?_;(case hd=>rfl);(case hg=>rfl);(case hr=>first | (go_simp;done) | (go_simp;rfl));intro gb176 hg w5 hbox hb;have n0_:=aM_ (blk_below (g:=gb175) (o:=.cells #[.string a0_0,.slice A0_1 l0_1.length c0_1,.slice A0_2 l0_2.length c0_2,.slice A0_3 l0_3.length c0_3] 87 (0,0)) (by exact kZ_ BK175) hb);have n1_:=aM_ (bT_ (by exact bZ_ HB) hb);have n2_:=aM_ (hbox);have n3_:=aM_ ((by rw [hg];exact (bS_ (by exact bZ_ HB)) : w.heap.size ≤ gb176));have n4_:=aM_ ((by rw [hg];exact (bS_ (by exact bZ_ HB)) : w.heap.size ≤ gb176));have n5_:=aM_ ((by rw [hg];exact nN_ (blk_lt (g:=gb175) (o:=.cells #[.string a0_0,.slice A0_1 l0_1.length c0_1,.slice A0_2 l0_2.length c0_2,.slice A0_3 l0_3.length c0_3] 87 (0,0)) (by exact kZ_ BK175)) : gb175 ≠ gb176));have n6_:=aM_ ((by rw [hg];exact Nat.ne_of_gt (blk_lt (g:=gb175) (o:=.cells #[.string a0_0,.slice A0_1 l0_1.length c0_1,.slice A0_2 l0_2.length c0_2,.slice A0_3 l0_3.length c0_3] 87 (0,0)) (by exact kZ_ BK175)) : gb176 ≠ gb175));clear BK175 HB;have BK175:=n0_;have HB:=n1_;have BK176:=n2_;have GW176:=n3_;have GE176:=n4_;have NB175_176:=n5_;have NB176_175:=n6_;clear n0_ n1_ n2_ n3_ n4_ n5_ n6_ hb hbox hg))
 (try simp only [Act.put,sI_,sZ_,sS_])
 go_cut [39] (fun v39 wc=>∃ (kq : Nat) (x39_2 : Bool),v39 = .bool x39_2 ∧ Aside0 (impl_SameDef.j0 kq x39_2 a0_0 l0_1 l0_2 l0_3 a1_0 l1_1 l1_2 l1_3 = some r) ∧ Aside0 (kq ≤ k) ∧ Aside0 (wc.heap[gb175]? = some (.cells #[.string a0_0,(.slice A0_1 l0_1.length c0_1),(.slice A0_2 l0_2.length c0_2),(.slice A0_3 l0_3.length c0_3)] 87 (0,0))) ∧ Aside0 (wc.heap[gb176]? = some (.cells #[.string a1_0,(.slice A1_1 l1_1.length c1_1),(.slice A1_2 l1_2.length c1_2),(.slice A1_3 l1_3.length c1_3)] 87 (0,0))) ∧ Aside0 (Below w.heap.size w wc))
 case first =>
  have H:=HC3.out
  clear HC3
  by_cases c6 : a0_0.toList = a1_0.toList
  ·rw [if_pos c6] at H
   have c6b0 : (a0_0.toList == a1_0.toList) = true:=beq_iff_eq.mpr c6
   have c6b1 : (a0_0.toList != a1_0.toList) = false:=bne_eq_false_iff_eq.mpr c6
   clear c6
   (first | rw [c6b0] | (simp only [i64_w,i32_w];rw [c6b0]) | skip)
   by_cases c7 : (l0_1.length : Int) = (l1_1.length : Int)
   ·rw [if_pos c7] at H
    have c7b0 : ((l0_1.length : Int) == (l1_1.length : Int)) = true:=beq_iff_eq.mpr c7
    have c7b1 : ((l0_1.length : Int) != (l1_1.length : Int)) = false:=bne_eq_false_iff_eq.mpr c7
    have c7b2 : (l0_1.length == l1_1.length) = true:=by first | simpa using c7 | (simp at c7 ⊢;omega)
    clear c7
    by_cases c8 : (l0_3.length : Int) = (l1_3.length : Int)
    ·rw [if_pos c8] at H
     have c8b0 : ((l0_3.length : Int) == (l1_3.length : Int)) = true:=beq_iff_eq.mpr c8
     have c8b1 : ((l0_3.length : Int) != (l1_3.length : Int)) = false:=bne_eq_false_iff_eq.mpr c8
     have c8b2 : (l0_3.length == l1_3.length) = true:=by first | simpa using c8 | (simp at c8 ⊢;omega)
     clear c8
     replace H:=oB_ H
     obtain ⟨t177,A90,H⟩:=H
     replace H : (impl_SameDef.j0 k (!t177) a0_0 l0_1 l0_2 l0_3 a1_0 l1_1 l1_2 l1_3) = some r:=H
     have A9:=aM_ A90
     clear A90
     have H':=aM_ H
     clear H
     have hnb10:=NB175_176.out
     have hnc10:=NB176_175.out
     have hcz11_0 : w5.cell? ⟨gb175,0,none⟩ = some (.string a0_0):=(kC_ BK175.out 0).trans rfl
     have hcz11_1 : w5.cell? ⟨gb175,1,none⟩ = some (.slice A0_1 l0_1.length c0_1):=(kC_ BK175.out 1).trans rfl
     have hcz11_2 : w5.cell? ⟨gb175,2,none⟩ = some (.slice A0_2 l0_2.length c0_2):=(kC_ BK175.out 2).trans rfl
     have hcz11_3 : w5.cell? ⟨gb175,3,none⟩ = some (.slice A0_3 l0_3.length c0_3):=(kC_ BK175.out 3).trans rfl
     have hfz11_0:=kF_ BK175.out 0
     have hfz11_1:=kF_ BK175.out 1
     have hfz11_2:=kF_ BK175.out 2
     have hfz11_3:=kF_ BK175.out 3
     have hcz12_0 : w5.cell? ⟨gb176,0,none⟩ = some (.string a1_0):=(kC_ BK176.out 0).trans rfl
     have hcz12_1 : w5.cell? ⟨gb176,1,none⟩ = some (.slice A1_1 l1_1.length c1_1):=(kC_ BK176.out 1).trans rfl
     have hcz12_2 : w5.cell? ⟨gb176,2,none⟩ = some (.slice A1_2 l1_2.length c1_2):=(kC_ BK176.out 2).trans rfl
     have hcz12_3 : w5.cell? ⟨gb176,3,none⟩ = some (.slice A1_3 l1_3.length c1_3):=(kC_ BK176.out 3).trans rfl
     have hfz12_0:=kF_ BK176.out 0
     have hfz12_1:=kF_ BK176.out 1
     have hfz12_2:=kF_ BK176.out 2
     have hfz12_3:=kF_ BK176.out 3
     go_wp2_with (first | (go_at_call 140;(with_reducible refine (impl_sameParts.calls k _ _ l0_2 _ _ l1_2 t177 _ ?side1 ?side2 ?side3 ?side4 A9.out).mono ?_);(case side1=>repeat (first | exact (Kd.C_below HR0_2.out HB.out) | (with_reducible refine cA_ ?_ _) | (with_reducible refine cN_ ?_ _) | (with_reducible refine cD_ ?_)));(case side2=>exact HC0_2.out);(case side3=>repeat (first | exact (Kd.C_below HR1_2.out HB.out) | (with_reducible refine cA_ ?_ _) | (with_reducible refine cN_ ?_ _) | (with_reducible refine cD_ ?_)));(case side4=>exact HC1_2.out);rintro e w' ⟨rfl,⟨nd,rfl⟩⟩))
     (first | go_meet | (refine Met.intro ?_;go_step;(repeat apply Exists.intro);refine ⟨?rel,?eq⟩;(case eq=>(try simp only [c6b0]);(try simp only [c6b0]);(try simp only [c6b0]);rfl)))
     case rel=>exact ⟨_,(!t177),(by first | rfl | (simp;done) | (simp [*];done)),H', ⟨by first | omega | exact Nat.le_refl _⟩,⟨by exact kZ_ BK175⟩,⟨by exact kZ_ BK176⟩,⟨by exact bZ_ HB⟩⟩
    ·rw [if_neg c8] at H
     have c8b0 : ((l0_3.length : Int) == (l1_3.length : Int)) = false:=beq_eq_false_iff_ne.mpr c8
     have c8b1 : ((l0_3.length : Int) != (l1_3.length : Int)) = true:=bne_iff_ne.mpr c8
     have c8b2 : (l0_3.length == l1_3.length) = false:=by first | simpa using c8 | (simp at c8 ⊢;omega)
     have H':=aM_ H
     clear H
     have hnb13:=NB175_176.out
     have hnc13:=NB176_175.out
     have hcz14_0 : w5.cell? ⟨gb175,0,none⟩ = some (.string a0_0):=(kC_ BK175.out 0).trans rfl
     have hcz14_1 : w5.cell? ⟨gb175,1,none⟩ = some (.slice A0_1 l0_1.length c0_1):=(kC_ BK175.out 1).trans rfl
     have hcz14_2 : w5.cell? ⟨gb175,2,none⟩ = some (.slice A0_2 l0_2.length c0_2):=(kC_ BK175.out 2).trans rfl
     have hcz14_3 : w5.cell? ⟨gb175,3,none⟩ = some (.slice A0_3 l0_3.length c0_3):=(kC_ BK175.out 3).trans rfl
     have hfz14_0:=kF_ BK175.out 0
     have hfz14_1:=kF_ BK175.out 1
     have hfz14_2:=kF_ BK175.out 2
     have hfz14_3:=kF_ BK175.out 3
     have hcz15_0 : w5.cell? ⟨gb176,0,none⟩ = some (.string a1_0):=(kC_ BK176.out 0).trans rfl
     have hcz15_1 : w5.cell? ⟨gb176,1,none⟩ = some (.slice A1_1 l1_1.length c1_1):=(kC_ BK176.out 1).trans rfl
     have hcz15_2 : w5.cell? ⟨gb176,2,none⟩ = some (.slice A1_2 l1_2.length c1_2):=(kC_ BK176.out 2).trans rfl
     have hcz15_3 : w5.cell? ⟨gb176,3,none⟩ = some (.slice A1_3 l1_3.length c1_3):=(kC_ BK176.out 3).trans rfl
     have hfz15_0:=kF_ BK176.out 0
     have hfz15_1:=kF_ BK176.out 1
     have hfz15_2:=kF_ BK176.out 2
     have hfz15_3:=kF_ BK176.out 3
     go_wp2
     (first | go_meet | (refine Met.intro ?_;go_step;(repeat apply Exists.intro);refine ⟨?rel,?eq⟩;(case eq=>(try simp only [c6b0]);(try simp only [c6b0]);(try simp only [c6b0]);rfl)))
     case rel=>exact ⟨_,(true),(by first | rfl | (simp;done) | (simp [*];done)),H', ⟨by first | omega | exact Nat.le_refl _⟩,⟨by exact kZ_ BK175⟩,⟨by exact kZ_ BK176⟩,⟨by exact bZ_ HB⟩⟩
   ·rw [if_neg c7] at H
    have c7b0 : ((l0_1.length : Int) == (l1_1.length : Int)) = false:=beq_eq_false_iff_ne.mpr c7
    have c7b1 : ((l0_1.length : Int) != (l1_1.length : Int)) = true:=bne_iff_ne.mpr c7
    have c7b2 : (l0_1.length == l1_1.length) = false:=by first | simpa using c7 | (simp at c7 ⊢;omega)
    have H':=aM_ H
    clear H
    have hnb16:=NB175_176.out
    have hnc16:=NB176_175.out
    have hcz17_0 : w5.cell? ⟨gb175,0,none⟩ = some (.string a0_0):=(kC_ BK175.out 0).trans rfl
    have hcz17_1 : w5.cell? ⟨gb175,1,none⟩ = some (.slice A0_1 l0_1.length c0_1):=(kC_ BK175.out 1).trans rfl
    have hcz17_2 : w5.cell? ⟨gb175,2,none⟩ = some (.slice A0_2 l0_2.length c0_2):=(kC_ BK175.out 2).trans rfl
    have hcz17_3 : w5.cell? ⟨gb175,3,none⟩ = some (.slice A0_3 l0_3.length c0_3):=(kC_ BK175.out 3).trans rfl
    have hfz17_0:=kF_ BK175.out 0
    have hfz17_1:=kF_ BK175.out 1
    have hfz17_2:=kF_ BK175.out 2
    have hfz17_3:=kF_ BK175.out 3
    have hcz18_0 : w5.cell? ⟨gb176,0,none⟩ = some (.string a1_0):=(kC_ BK176.out 0).trans rfl
    have hcz18_1 : w5.cell? ⟨gb176,1,none⟩ = some (.slice A1_1 l1_1.length c1_1):=(kC_ BK176.out 1).trans rfl
    have hcz18_2 : w5.cell? ⟨gb176,2,none⟩ = some (.slice A1_2 l1_2.length c1_2):=(kC_ BK176.out 2).trans rfl
    have hcz18_3 : w5.cell? ⟨gb176,3,none⟩ = some (.slice A1_3 l1_3.length c1_3):=(kC_ BK176.out 3).trans rfl
    have hfz18_0:=kF_ BK176.out 0
    have hfz18_1:=kF_ BK176.out 1
    have hfz18_2:=kF_ BK176.out 2
    have hfz18_3:=kF_ BK176.out 3
    go_wp2
    (first | go_meet | (refine Met.intro ?_;go_step;(repeat apply Exists.intro);refine ⟨?rel,?eq⟩;(case eq=>(try simp only [c6b0]);(try simp only [c6b0]);(try simp only [c6b0]);rfl)))
    case rel=>exact ⟨_,(true),(by first | rfl | (simp;done) | (simp [*];done)),H', ⟨by first | omega | exact Nat.le_refl _⟩,⟨by exact kZ_ BK175⟩,⟨by exact kZ_ BK176⟩,⟨by exact bZ_ HB⟩⟩
  ·rw [if_neg c6] at H
   have c6b0 : (a0_0.toList == a1_0.toList) = false:=beq_eq_false_iff_ne.mpr c6
   have c6b1 : (a0_0.toList != a1_0.toList) = true:=bne_iff_ne.mpr c6
   (first | rw [c6b0] | (simp only [i64_w,i32_w];rw [c6b0]) | skip)
   have H':=aM_ H
   clear H
   have hnb19:=NB175_176.out
   have hnc19:=NB176_175.out
   have hcz20_0 : w5.cell? ⟨gb175,0,none⟩ = some (.string a0_0):=(kC_ BK175.out 0).trans rfl
   have hcz20_1 : w5.cell? ⟨gb175,1,none⟩ = some (.slice A0_1 l0_1.length c0_1):=(kC_ BK175.out 1).trans rfl
   have hcz20_2 : w5.cell? ⟨gb175,2,none⟩ = some (.slice A0_2 l0_2.length c0_2):=(kC_ BK175.out 2).trans rfl
   have hcz20_3 : w5.cell? ⟨gb175,3,none⟩ = some (.slice A0_3 l0_3.length c0_3):=(kC_ BK175.out 3).trans rfl
   have hfz20_0:=kF_ BK175.out 0
   have hfz20_1:=kF_ BK175.out 1
   have hfz20_2:=kF_ BK175.out 2
   have hfz20_3:=kF_ BK175.out 3
   have hcz21_0 : w5.cell? ⟨gb176,0,none⟩ = some (.string a1_0):=(kC_ BK176.out 0).trans rfl
   have hcz21_1 : w5.cell? ⟨gb176,1,none⟩ = some (.slice A1_1 l1_1.length c1_1):=(kC_ BK176.out 1).trans rfl
   have hcz21_2 : w5.cell? ⟨gb176,2,none⟩ = some (.slice A1_2 l1_2.length c1_2):=(kC_ BK176.out 2).trans rfl
   have hcz21_3 : w5.cell? ⟨gb176,3,none⟩ = some (.slice A1_3 l1_3.length c1_3):=(kC_ BK176.out 3).trans rfl
   have hfz21_0:=kF_ BK176.out 0
   have hfz21_1:=kF_ BK176.out 1
   have hfz21_2:=kF_ BK176.out 2
   have hfz21_3:=kF_ BK176.out 3
   go_wp2
   (first | go_meet | (refine Met.intro ?_;go_step;(repeat apply Exists.intro);refine ⟨?rel,?eq⟩;(case eq=>(try simp only [c6b0]);(try simp only [c6b0]);(try simp only [c6b0]);rfl)))
   case rel=>exact ⟨_,(true),(by first | rfl | (simp;done) | (simp [*];done)),H', ⟨by first | omega | exact Nat.le_refl _⟩,⟨by exact kZ_ BK175⟩,⟨by exact kZ_ BK176⟩,⟨by exact bZ_ HB⟩⟩
 case rest =>
  clear HC3
  obtain ⟨kq,x39_2,rfl,HA,HJ2,BK175,BK176,HB⟩:=hcut
  cases kq with
  | zero=>exact absurd HA.out (by simp [impl_SameDef.j0])
  | succ kj2 =>
   have H:=HA.out
   clear HA
   simp only [impl_SameDef.j0] at H
   by_cases c22 : x39_2 = true
   ·subst c22
    have H1 : (some false) = some r:=by rw [if_pos rfl] at H;exact H
    clear H
    have H:=H1
    clear H1
    obtain rfl:=Option.some.inj H
    go_wp2
    go_ret
    exact ⟨by first | rfl | (simp [errW_none,errW_some] <;> rfl) | (simp [*, errW_none,errW_some] <;> rfl),by exact bZ_ HB⟩
   ·replace c22:=Bool.eq_false_iff.mpr c22
    subst c22
    have H1 : (impl_SameDef.l0 kj2 (l0_1.length : Int) 0 a0_0 l0_1 l0_2 l0_3 a1_0 l1_1 l1_2 l1_3) = some r:=by rw [if_neg (show ¬ (false = true) by decide)] at H;exact H
    clear H
    have H:=H1
    clear H1
    have H':=aM_ H
    clear H
    have hnb23:=NB175_176.out
    have hnc23:=NB176_175.out
    have hcz24_0 : wc.cell? ⟨gb175,0,none⟩ = some (.string a0_0):=(kC_ BK175.out 0).trans rfl
    have hcz24_1 : wc.cell? ⟨gb175,1,none⟩ = some (.slice A0_1 l0_1.length c0_1):=(kC_ BK175.out 1).trans rfl
    have hcz24_2 : wc.cell? ⟨gb175,2,none⟩ = some (.slice A0_2 l0_2.length c0_2):=(kC_ BK175.out 2).trans rfl
    have hcz24_3 : wc.cell? ⟨gb175,3,none⟩ = some (.slice A0_3 l0_3.length c0_3):=(kC_ BK175.out 3).trans rfl
    have hfz24_0:=kF_ BK175.out 0
    have hfz24_1:=kF_ BK175.out 1
    have hfz24_2:=kF_ BK175.out 2
    have hfz24_3:=kF_ BK175.out 3
    go_wp2
    (try simp only [Act.put,sI_,sS_,sZ_])
    go_loopg [43] kj2 (fun kq v43 w'=>∃ (x43_2 : Int),v43 = .int .i64 x43_2 ∧ Aside0 (impl_SameDef.l0 kq (l0_1.length : Int) x43_2 a0_0 l0_1 l0_2 l0_3 a1_0 l1_1 l1_2 l1_3 = some r) ∧ Aside0 (kq ≤ kj2) ∧ Aside0 (w'.heap[gb175]? = some (.cells #[.string a0_0,(.slice A0_1 l0_1.length c0_1),(.slice A0_2 l0_2.length c0_2),(.slice A0_3 l0_3.length c0_3)] 87 (0,0))) ∧ Aside0 (w'.heap[gb176]? = some (.cells #[.string a1_0,(.slice A1_1 l1_1.length c1_1),(.slice A1_2 l1_2.length c1_2),(.slice A1_3 l1_3.length c1_3)] 87 (0,0))) ∧ Aside0 (Below w.heap.size w w'))
    case atStart=>exact ⟨(0),(by first | rfl | (simp;done) | (simp [*];done)),H', ⟨Nat.le_refl _⟩,⟨by exact kZ_ BK175⟩,⟨by exact kZ_ BK176⟩,⟨by exact bZ_ HB⟩⟩
    case round =>
     clear H'
     clear hcz24_0 hcz24_1 hcz24_2 hcz24_3 hfz24_0 hfz24_1 hfz24_2 hfz24_3
     obtain ⟨x43_2,rfl,HA,HK2,BK175,BK176,HB⟩:=hrel
     cases gk with
     | zero=>exact absurd HA.out (by simp [impl_SameDef.l0])
     | succ k2 =>
      have H:=HA.out
      clear HA
      simp only [impl_SameDef.l0] at H
      by_cases c25 : x43_2 < (l0_1.length : Int)
      ·rw [if_pos c25] at H
       have c25b0 : decide (x43_2 < (l0_1.length : Int)) = true:=decide_eq_true c25
       clear c25
       by_cases c26 : 0 ≤ x43_2
       ·rw [if_pos c26] at H
        have c26b0 : decide (0 ≤ x43_2) = true:=decide_eq_true c26
        clear c26
        by_cases c27 : x43_2 < (l0_1.length : Int)
        ·rw [if_pos c27] at H
         have c27b0 : decide (x43_2 < (l0_1.length : Int)) = true:=decide_eq_true c27
         clear c27
         by_cases c28 : x43_2 < (l1_1.length : Int)
         ·rw [if_pos c28] at H
          have c28b0 : decide (x43_2 < (l1_1.length : Int)) = true:=decide_eq_true c28
          clear c28
          by_cases c29 : (!((((rd_T146 l0_1 x43_2).f0).toList) == (((rd_T146 l1_1 x43_2).f0).toList)) || (!(((rd_T146 l0_1 x43_2).f1) == ((rd_T146 l1_1 x43_2).f1)) || (!(((rd_T146 l0_1 x43_2).f2) == ((rd_T146 l1_1 x43_2).f2))))) = true
          ·rw [if_pos c29] at H
           have c29b0 : (!((((rd_T146 l0_1 x43_2).f0).toList) == (((rd_T146 l1_1 x43_2).f0).toList)) || (!(((rd_T146 l0_1 x43_2).f1) == ((rd_T146 l1_1 x43_2).f1)) || (!(((rd_T146 l0_1 x43_2).f2) == ((rd_T146 l1_1 x43_2).f2))))) = true:=c29
           clear c29
           obtain rfl:=Option.some.inj H
           try go_wp2
           have n0_:=aM_ (kD_ BK175.out)
           have n1_:=aM_ (kD_ BK176.out)
           have n2_:=aM_ (bD_ HB.out)
           clear BK175 BK176 HB
           have BK175:=n0_
           have BK176:=n1_
           have HB:=n2_
           clear n0_ n1_ n2_
           have p178 : 0 ≤ (x43_2 : Int):=oT_ (by first | (with_reducible assumption) | assumption)
           have q178 : x43_2 < (l0_1.length : Int):=oT_ (by first | (with_reducible assumption) | assumption)
           obtain ⟨ad178,e178,hx178_0,hx178_1,hx178_2⟩:=at_T146 HR0_1.out x43_2 p178 q178
           have hw178_2:=hx178_2
           have hw178_1:=hx178_1
           have hw178_0:=hx178_0
           cases e178
           replace hx178_0:=(HB.out.cell (wL_ w _ hx178_0)).trans hx178_0
           replace hx178_1:=(HB.out.cell (wL_ w _ hx178_1)).trans hx178_1
           replace hx178_2:=(HB.out.cell (wL_ w _ hx178_2)).trans hx178_2
           replace p178:=eq_true p178
           replace q178:=eq_true q178
           have p179 : 0 ≤ (x43_2 : Int):=oT_ (by first | (with_reducible assumption) | assumption)
           have q179 : x43_2 < (l1_1.length : Int):=oT_ (by first | (with_reducible assumption) | assumption)
           obtain ⟨ad179,e179,hx179_0,hx179_1,hx179_2⟩:=at_T146 HR1_1.out x43_2 p179 q179
           have hw179_2:=hx179_2
           have hw179_1:=hx179_1
           have hw179_0:=hx179_0
           cases e179
           replace hx179_0:=(HB.out.cell (wL_ w _ hx179_0)).trans hx179_0
           replace hx179_1:=(HB.out.cell (wL_ w _ hx179_1)).trans hx179_1
           replace hx179_2:=(HB.out.cell (wL_ w _ hx179_2)).trans hx179_2
           replace p179:=eq_true p179
           replace q179:=eq_true q179
           refine start_ (n:=11) (S:=fun w'=>w'.cell? ⟨gb175,0,none⟩ = some (.string a0_0) ∧ w'.cell? ⟨gb175,1,none⟩ = some (.slice (some ad178) l0_1.length c0_1) ∧ w'.cell? ⟨gb175,2,none⟩ = some (.slice A0_2 l0_2.length c0_2) ∧ w'.cell? ⟨gb175,3,none⟩ = some (.slice A0_3 l0_3.length c0_3) ∧ w'.cell? ⟨gb176,0,none⟩ = some (.string a1_0) ∧ w'.cell? ⟨gb176,1,none⟩ = some (.slice (some ad179) l1_1.length c1_1) ∧ w'.cell? ⟨gb176,2,none⟩ = some (.slice A1_2 l1_2.length c1_2) ∧ w'.cell? ⟨gb176,3,none⟩ = some (.slice A1_3 l1_3.length c1_3) ∧ w'.cell? (ad178.add ((x43_2).toNat * 3)) = some (.string ((rd_T146 l0_1 x43_2).f0)) ∧ w'.cell? ⟨(ad178.add ((x43_2).toNat * 3)).block,(ad178.add ((x43_2).toNat * 3)).off + 1,none⟩ = some (.int .i64 ((rd_T146 l0_1 x43_2).f1)) ∧ w'.cell? ⟨(ad178.add ((x43_2).toNat * 3)).block,(ad178.add ((x43_2).toNat * 3)).off + 2,none⟩ = some (.bool ((rd_T146 l0_1 x43_2).f2)) ∧ w'.cell? (ad179.add ((x43_2).toNat * 3)) = some (.string ((rd_T146 l1_1 x43_2).f0)) ∧ w'.cell? ⟨(ad179.add ((x43_2).toNat * 3)).block,(ad179.add ((x43_2).toNat * 3)).off + 1,none⟩ = some (.int .i64 ((rd_T146 l1_1 x43_2).f1)) ∧ w'.cell? ⟨(ad179.add ((x43_2).toNat * 3)).block,(ad179.add ((x43_2).toNat * 3)).off + 2,none⟩ = some (.bool ((rd_T146 l1_1 x43_2).f2))) (ds:=[]) (tb_ 0 11) (by kernel_rfl) rfl rfl ⟨(kC_ BK175.out 0).trans rfl,(kC_ BK175.out 1).trans rfl,(kC_ BK175.out 2).trans rfl,(kC_ BK175.out 3).trans rfl,(kC_ BK176.out 0).trans rfl,(kC_ BK176.out 1).trans rfl,(kC_ BK176.out 2).trans rfl,(kC_ BK176.out 3).trans rfl,((HB.out.cell (wL_ w _ hw178_0)).trans hw178_0),((HB.out.cell (wL_ w _ hw178_1)).trans hw178_1),((HB.out.cell (wL_ w _ hw178_2)).trans hw178_2),((HB.out.cell (wL_ w _ hw179_0)).trans hw179_0),((HB.out.cell (wL_ w _ hw179_1)).trans hw179_1),((HB.out.cell (wL_ w _ hw179_2)).trans hw179_2)⟩ (fun hHeld=>?_);refine with_tabW impl_SameDef.tab6 impl_SameDef.bits6 (fun HT_ HW_=>?_)
           generalize wr.drew = w30 at BK175 BK176 HB hx178_0 hx178_1 hx178_2 hx179_0 hx179_1 hx179_2 hHeld ⊢
           refine pure_ (i:=0) (N:=some 46) (v:=?_) (a':=?_) (tb_ 1 10) rfl rfl (any_of HT_.out (by kernel_rfl)) (fun _ _ _ h=>h) (Or.inl ⟨by rfl,?_⟩) ?_ ?_
           rotate_left
           ·intro w'
            go_simp
            with_reducible rfl
           rotate_left
           ·simp only [Act.put,sI_,sZ_,sS_,i64_w,i32_w]
            rfl
           refine pure_ (i:=2) (N:=some 48) (v:=?_) (a':=?_) #[true,false,true,false,false,false,false,false,false,false,false] rfl rfl (any_of HT_.out (by kernel_rfl)) (fun _ _ _ h=>h) (Or.inl ⟨by rfl,?_⟩) ?_ ?_
           rotate_left
           ·intro w'
            go_simp
            with_reducible rfl
           rotate_left
           ·simp only [Act.put,sI_,sZ_,sS_,i64_w,i32_w]
            rfl
           refine pure_ (i:=5) (N:=some 51) (v:=?_) (a':=?_) #[true,false,true,false,false,true,false,false,false,false,false] rfl rfl (any_of HT_.out (by kernel_rfl)) (fun _ _ _ h=>h) (Or.inl ⟨by rfl,?_⟩) ?_ ?_
           rotate_left
           ·intro w'
            go_simp
            with_reducible rfl
           rotate_left
           ·simp only [Act.put,sI_,sZ_,sS_,i64_w,i32_w]
            rfl
           refine pure_ (i:=7) (N:=some 53) (v:=?_) (a':=?_) #[true,false,true,false,false,true,false,true,false,false,false] rfl rfl (any_of HT_.out (by kernel_rfl)) (fun _ _ _ h=>h) (Or.inl ⟨by rfl,?_⟩) ?_ ?_
           rotate_left
           ·intro w'
            go_simp
            with_reducible rfl
           rotate_left
           ·simp only [Act.put,sI_,sZ_,sS_,i64_w,i32_w]
            rfl
           refine take_ (i:=1) (N:=some 47) (v:=?_) (a':=?_) #[true,true,true,false,false,true,false,true,false,false,false] rfl rfl (take_ofW HT_.out HW_.out (by kernel_rfl)) (fun _ _ _ h=>h) (Or.inl ⟨by rfl,?_⟩) hHeld ?_ ?_
           rotate_left
           ·rintro w' ⟨s0,s1,s2,s3,s4,s5,s6,s7,s8,s9,s10,s11,s12,s13⟩
            go_simp
            with_reducible rfl
           rotate_left
           ·simp only [Act.put,sI_,sZ_,sS_,i64_w,i32_w]
            rfl
           refine pure_ (i:=3) (N:=some 49) (v:=?_) (a':=?_) #[true,true,true,true,false,true,false,true,false,false,false] rfl rfl (any_of HT_.out (by kernel_rfl)) (fun _ _ _ h=>h) (Or.inl ⟨by rfl,?_⟩) ?_ ?_
           rotate_left
           ·intro w'
            go_simp
            with_reducible rfl
           rotate_left
           ·simp only [Act.put,sI_,sZ_,sS_,i64_w,i32_w]
            rfl
           refine take_ (i:=4) (N:=some 50) (v:=?_) (a':=?_) #[true,true,true,true,true,true,false,true,false,false,false] rfl rfl (take_ofW HT_.out HW_.out (by kernel_rfl)) (fun _ _ _ h=>h) (Or.inl ⟨by rfl,?_⟩) hHeld ?_ ?_
           rotate_left
           ·rintro w' ⟨s0,s1,s2,s3,s4,s5,s6,s7,s8,s9,s10,s11,s12,s13⟩
            go_simp
            with_reducible rfl
           rotate_left
           ·simp only [Act.put,sI_,sZ_,sS_,i64_w,i32_w]
            rfl
           refine take_ (i:=6) (N:=some 52) (v:=?_) (a':=?_) (tb_ 8 3) rfl rfl (take_ofW HT_.out HW_.out (by kernel_rfl)) (fun _ _ _ h=>h) (Or.inl ⟨by rfl,?_⟩) hHeld ?_ ?_
           rotate_left
           ·rintro w' ⟨s0,s1,s2,s3,s4,s5,s6,s7,s8,s9,s10,s11,s12,s13⟩
            go_simp
            with_reducible rfl
           rotate_left
           ·simp only [Act.put,sI_,sZ_,sS_,i64_w,i32_w]
            rfl
           refine pure_ (i:=8) (N:=some 54) (v:=?_) (a':=?_) (tb_ 9 2) rfl rfl (any_of HT_.out (by kernel_rfl)) (fun _ _ _ h=>h) (Or.inl ⟨by rfl,?_⟩) ?_ ?_
           rotate_left
           ·intro w'
            go_simp
            with_reducible rfl
           rotate_left
           ·simp only [Act.put,sI_,sZ_,sS_,i64_w,i32_w]
            rfl
           refine take_ (i:=9) (N:=some 55) (v:=?_) (a':=?_) (tb_ 10 1) rfl rfl (take_ofW HT_.out HW_.out (by kernel_rfl)) (fun _ _ _ h=>h) (Or.inl ⟨by rfl,?_⟩) hHeld ?_ ?_
           rotate_left
           ·rintro w' ⟨s0,s1,s2,s3,s4,s5,s6,s7,s8,s9,s10,s11,s12,s13⟩
            go_simp
            with_reducible rfl
           rotate_left
           ·simp only [Act.put,sI_,sZ_,sS_,i64_w,i32_w]
            rfl
           refine pure_ (i:=10) (N:=some 56) (v:=?_) (a':=?_) (tb_ 11 0) rfl rfl (any_of HT_.out (by kernel_rfl)) (fun _ _ _ h=>h) (Or.inl ⟨by rfl,?_⟩) ?_ ?_
           rotate_left
           ·intro w'
            go_simp
            with_reducible rfl
           rotate_left
           ·simp only [Act.put,sI_,sZ_,sS_,i64_w,i32_w]
            rfl
           refine done_ (done_of HT_.out (by kernel_rfl)) ?_
           try go_wp2
           go_ret
           exact ⟨by first | rfl | (simp [errW_none,errW_some] <;> rfl) | (simp [*, errW_none,errW_some] <;> rfl),by exact bZ_ HB⟩
          ·rw [if_neg c29] at H
           have c29b0 : (!((((rd_T146 l0_1 x43_2).f0).toList) == (((rd_T146 l1_1 x43_2).f0).toList)) || (!(((rd_T146 l0_1 x43_2).f1) == ((rd_T146 l1_1 x43_2).f1)) || (!(((rd_T146 l0_1 x43_2).f2) == ((rd_T146 l1_1 x43_2).f2))))) = false:=by simpa using c29
           clear c29
           have H':=aM_ H
           clear H
           try go_wp2
           have n0_:=aM_ (kD_ BK175.out)
           have n1_:=aM_ (kD_ BK176.out)
           have n2_:=aM_ (bD_ HB.out)
           clear BK175 BK176 HB
           have BK175:=n0_
           have BK176:=n1_
           have HB:=n2_
           clear n0_ n1_ n2_
           have p178 : 0 ≤ (x43_2 : Int):=oT_ (by first | (with_reducible assumption) | assumption)
           have q178 : x43_2 < (l0_1.length : Int):=oT_ (by first | (with_reducible assumption) | assumption)
           obtain ⟨ad178,e178,hx178_0,hx178_1,hx178_2⟩:=at_T146 HR0_1.out x43_2 p178 q178
           have hw178_2:=hx178_2
           have hw178_1:=hx178_1
           have hw178_0:=hx178_0
           cases e178
           replace hx178_0:=(HB.out.cell (wL_ w _ hx178_0)).trans hx178_0
           replace hx178_1:=(HB.out.cell (wL_ w _ hx178_1)).trans hx178_1
           replace hx178_2:=(HB.out.cell (wL_ w _ hx178_2)).trans hx178_2
           replace p178:=eq_true p178
           replace q178:=eq_true q178
           have p179 : 0 ≤ (x43_2 : Int):=oT_ (by first | (with_reducible assumption) | assumption)
           have q179 : x43_2 < (l1_1.length : Int):=oT_ (by first | (with_reducible assumption) | assumption)
           obtain ⟨ad179,e179,hx179_0,hx179_1,hx179_2⟩:=at_T146 HR1_1.out x43_2 p179 q179
           have hw179_2:=hx179_2
           have hw179_1:=hx179_1
           have hw179_0:=hx179_0
           cases e179
           replace hx179_0:=(HB.out.cell (wL_ w _ hx179_0)).trans hx179_0
           replace hx179_1:=(HB.out.cell (wL_ w _ hx179_1)).trans hx179_1
           replace hx179_2:=(HB.out.cell (wL_ w _ hx179_2)).trans hx179_2
           replace p179:=eq_true p179
           replace q179:=eq_true q179
           refine start_ (n:=11) (S:=fun w'=>w'.cell? ⟨gb175,0,none⟩ = some (.string a0_0) ∧ w'.cell? ⟨gb175,1,none⟩ = some (.slice (some ad178) l0_1.length c0_1) ∧ w'.cell? ⟨gb175,2,none⟩ = some (.slice A0_2 l0_2.length c0_2) ∧ w'.cell? ⟨gb175,3,none⟩ = some (.slice A0_3 l0_3.length c0_3) ∧ w'.cell? ⟨gb176,0,none⟩ = some (.string a1_0) ∧ w'.cell? ⟨gb176,1,none⟩ = some (.slice (some ad179) l1_1.length c1_1) ∧ w'.cell? ⟨gb176,2,none⟩ = some (.slice A1_2 l1_2.length c1_2) ∧ w'.cell? ⟨gb176,3,none⟩ = some (.slice A1_3 l1_3.length c1_3) ∧ w'.cell? (ad178.add ((x43_2).toNat * 3)) = some (.string ((rd_T146 l0_1 x43_2).f0)) ∧ w'.cell? ⟨(ad178.add ((x43_2).toNat * 3)).block,(ad178.add ((x43_2).toNat * 3)).off + 1,none⟩ = some (.int .i64 ((rd_T146 l0_1 x43_2).f1)) ∧ w'.cell? ⟨(ad178.add ((x43_2).toNat * 3)).block,(ad178.add ((x43_2).toNat * 3)).off + 2,none⟩ = some (.bool ((rd_T146 l0_1 x43_2).f2)) ∧ w'.cell? (ad179.add ((x43_2).toNat * 3)) = some (.string ((rd_T146 l1_1 x43_2).f0)) ∧ w'.cell? ⟨(ad179.add ((x43_2).toNat * 3)).block,(ad179.add ((x43_2).toNat * 3)).off + 1,none⟩ = some (.int .i64 ((rd_T146 l1_1 x43_2).f1)) ∧ w'.cell? ⟨(ad179.add ((x43_2).toNat * 3)).block,(ad179.add ((x43_2).toNat * 3)).off + 2,none⟩ = some (.bool ((rd_T146 l1_1 x43_2).f2))) (ds:=[]) (tb_ 0 11) (by kernel_rfl) rfl rfl ⟨(kC_ BK175.out 0).trans rfl,(kC_ BK175.out 1).trans rfl,(kC_ BK175.out 2).trans rfl,(kC_ BK175.out 3).trans rfl,(kC_ BK176.out 0).trans rfl,(kC_ BK176.out 1).trans rfl,(kC_ BK176.out 2).trans rfl,(kC_ BK176.out 3).trans rfl,((HB.out.cell (wL_ w _ hw178_0)).trans hw178_0),((HB.out.cell (wL_ w _ hw178_1)).trans hw178_1),((HB.out.cell (wL_ w _ hw178_2)).trans hw178_2),((HB.out.cell (wL_ w _ hw179_0)).trans hw179_0),((HB.out.cell (wL_ w _ hw179_1)).trans hw179_1),((HB.out.cell (wL_ w _ hw179_2)).trans hw179_2)⟩ (fun hHeld=>?_);refine with_tabW impl_SameDef.tab6 impl_SameDef.bits6 (fun HT_ HW_=>?_)
           generalize wr.drew = w31 at BK175 BK176 HB hx178_0 hx178_1 hx178_2 hx179_0 hx179_1 hx179_2 hHeld ⊢
           refine pure_ (i:=0) (N:=some 46) (v:=?_) (a':=?_) (tb_ 1 10) rfl rfl (any_of HT_.out (by kernel_rfl)) (fun _ _ _ h=>h) (Or.inl ⟨by rfl,?_⟩) ?_ ?_
           rotate_left
           ·intro w'
            go_simp
            with_reducible rfl
           rotate_left
           ·simp only [Act.put,sI_,sZ_,sS_,i64_w,i32_w]
            rfl
           refine pure_ (i:=2) (N:=some 48) (v:=?_) (a':=?_) #[true,false,true,false,false,false,false,false,false,false,false] rfl rfl (any_of HT_.out (by kernel_rfl)) (fun _ _ _ h=>h) (Or.inl ⟨by rfl,?_⟩) ?_ ?_
           rotate_left
           ·intro w'
            go_simp
            with_reducible rfl
           rotate_left
           ·simp only [Act.put,sI_,sZ_,sS_,i64_w,i32_w]
            rfl
           refine pure_ (i:=5) (N:=some 51) (v:=?_) (a':=?_) #[true,false,true,false,false,true,false,false,false,false,false] rfl rfl (any_of HT_.out (by kernel_rfl)) (fun _ _ _ h=>h) (Or.inl ⟨by rfl,?_⟩) ?_ ?_
           rotate_left
           ·intro w'
            go_simp
            with_reducible rfl
           rotate_left
           ·simp only [Act.put,sI_,sZ_,sS_,i64_w,i32_w]
            rfl
           refine pure_ (i:=7) (N:=some 53) (v:=?_) (a':=?_) #[true,false,true,false,false,true,false,true,false,false,false] rfl rfl (any_of HT_.out (by kernel_rfl)) (fun _ _ _ h=>h) (Or.inl ⟨by rfl,?_⟩) ?_ ?_
           rotate_left
           ·intro w'
            go_simp
            with_reducible rfl
           rotate_left
           ·simp only [Act.put,sI_,sZ_,sS_,i64_w,i32_w]
            rfl
           refine take_ (i:=1) (N:=some 47) (v:=?_) (a':=?_) #[true,true,true,false,false,true,false,true,false,false,false] rfl rfl (take_ofW HT_.out HW_.out (by kernel_rfl)) (fun _ _ _ h=>h) (Or.inl ⟨by rfl,?_⟩) hHeld ?_ ?_
           rotate_left
           ·rintro w' ⟨s0,s1,s2,s3,s4,s5,s6,s7,s8,s9,s10,s11,s12,s13⟩
            go_simp
            with_reducible rfl
           rotate_left
           ·simp only [Act.put,sI_,sZ_,sS_,i64_w,i32_w]
            rfl
           refine pure_ (i:=3) (N:=some 49) (v:=?_) (a':=?_) #[true,true,true,true,false,true,false,true,false,false,false] rfl rfl (any_of HT_.out (by kernel_rfl)) (fun _ _ _ h=>h) (Or.inl ⟨by rfl,?_⟩) ?_ ?_
           rotate_left
           ·intro w'
            go_simp
            with_reducible rfl
           rotate_left
           ·simp only [Act.put,sI_,sZ_,sS_,i64_w,i32_w]
            rfl
           refine take_ (i:=4) (N:=some 50) (v:=?_) (a':=?_) #[true,true,true,true,true,true,false,true,false,false,false] rfl rfl (take_ofW HT_.out HW_.out (by kernel_rfl)) (fun _ _ _ h=>h) (Or.inl ⟨by rfl,?_⟩) hHeld ?_ ?_
           rotate_left
           ·rintro w' ⟨s0,s1,s2,s3,s4,s5,s6,s7,s8,s9,s10,s11,s12,s13⟩
            go_simp
            with_reducible rfl
           rotate_left
           ·simp only [Act.put,sI_,sZ_,sS_,i64_w,i32_w]
            rfl
           refine take_ (i:=6) (N:=some 52) (v:=?_) (a':=?_) (tb_ 8 3) rfl rfl (take_ofW HT_.out HW_.out (by kernel_rfl)) (fun _ _ _ h=>h) (Or.inl ⟨by rfl,?_⟩) hHeld ?_ ?_
           rotate_left
           ·rintro w' ⟨s0,s1,s2,s3,s4,s5,s6,s7,s8,s9,s10,s11,s12,s13⟩
            go_simp
            with_reducible rfl
           rotate_left
           ·simp only [Act.put,sI_,sZ_,sS_,i64_w,i32_w]
            rfl
           refine pure_ (i:=8) (N:=some 54) (v:=?_) (a':=?_) (tb_ 9 2) rfl rfl (any_of HT_.out (by kernel_rfl)) (fun _ _ _ h=>h) (Or.inl ⟨by rfl,?_⟩) ?_ ?_
           rotate_left
           ·intro w'
            go_simp
            with_reducible rfl
           rotate_left
           ·simp only [Act.put,sI_,sZ_,sS_,i64_w,i32_w]
            rfl
           refine take_ (i:=9) (N:=some 55) (v:=?_) (a':=?_) (tb_ 10 1) rfl rfl (take_ofW HT_.out HW_.out (by kernel_rfl)) (fun _ _ _ h=>h) (Or.inl ⟨by rfl,?_⟩) hHeld ?_ ?_
           rotate_left
           ·rintro w' ⟨s0,s1,s2,s3,s4,s5,s6,s7,s8,s9,s10,s11,s12,s13⟩
            go_simp
            with_reducible rfl
           rotate_left
           ·simp only [Act.put,sI_,sZ_,sS_,i64_w,i32_w]
            rfl
           refine pure_ (i:=10) (N:=some 56) (v:=?_) (a':=?_) (tb_ 11 0) rfl rfl (any_of HT_.out (by kernel_rfl)) (fun _ _ _ h=>h) (Or.inl ⟨by rfl,?_⟩) ?_ ?_
           rotate_left
           ·intro w'
            go_simp
            with_reducible rfl
           rotate_left
           ·simp only [Act.put,sI_,sZ_,sS_,i64_w,i32_w]
            rfl
           refine done_ (done_of HT_.out (by kernel_rfl)) ?_
           try go_wp2
           go_roundg k2
           case measure=>have:=HJ2.out;have:=HK2.out;omega
           case rel=>exact ⟨(wrap64 (x43_2 + 1)),(by first | rfl | (simp;done) | (simp [*];done)),H', ⟨by have:=HJ2.out;have:=HK2.out;omega⟩,⟨by exact kZ_ BK175⟩,⟨by exact kZ_ BK176⟩,⟨by exact bZ_ HB⟩⟩
         ·rw [if_neg c28] at H
          exact absurd H (by simp)
        ·rw [if_neg c27] at H
         exact absurd H (by simp)
       ·rw [if_neg c26] at H
        exact absurd H (by simp)
      ·rw [if_neg c25] at H
       have c25b0 : decide (x43_2 < (l0_1.length : Int)) = false:=decide_eq_false c25
       clear c25
       have H':=aM_ H
       clear H
       have hnb32:=NB175_176.out
       have hnc32:=NB176_175.out
       have hcz33_0 : wr.cell? ⟨gb175,0,none⟩ = some (.string a0_0):=(kC_ BK175.out 0).trans rfl
       have hcz33_1 : wr.cell? ⟨gb175,1,none⟩ = some (.slice A0_1 l0_1.length c0_1):=(kC_ BK175.out 1).trans rfl
       have hcz33_2 : wr.cell? ⟨gb175,2,none⟩ = some (.slice A0_2 l0_2.length c0_2):=(kC_ BK175.out 2).trans rfl
       have hcz33_3 : wr.cell? ⟨gb175,3,none⟩ = some (.slice A0_3 l0_3.length c0_3):=(kC_ BK175.out 3).trans rfl
       have hfz33_0:=kF_ BK175.out 0
       have hfz33_1:=kF_ BK175.out 1
       have hfz33_2:=kF_ BK175.out 2
       have hfz33_3:=kF_ BK175.out 3
       go_wp2
       (try simp only [Act.put,sI_,sS_,sZ_])
       go_loopg [61] k2 (fun kq v61 w'=>∃ (x61_3 : Int),v61 = .int .i64 x61_3 ∧ Aside0 (impl_SameDef.l1 kq (l0_3.length : Int) x61_3 a0_0 l0_1 l0_2 l0_3 a1_0 l1_1 l1_2 l1_3 = some r) ∧ Aside0 (kq ≤ k2) ∧ Aside0 (w'.heap[gb175]? = some (.cells #[.string a0_0,(.slice A0_1 l0_1.length c0_1),(.slice A0_2 l0_2.length c0_2),(.slice A0_3 l0_3.length c0_3)] 87 (0,0))) ∧ Aside0 (w'.heap[gb176]? = some (.cells #[.string a1_0,(.slice A1_1 l1_1.length c1_1),(.slice A1_2 l1_2.length c1_2),(.slice A1_3 l1_3.length c1_3)] 87 (0,0))) ∧ Aside0 (Below w.heap.size w w'))
       case atStart=>exact ⟨(0),(by first | rfl | (simp;done) | (simp [*];done)),H', ⟨Nat.le_refl _⟩,⟨by exact kZ_ BK175⟩,⟨by exact kZ_ BK176⟩,⟨by exact bZ_ HB⟩⟩
       case round =>
        clear H'
        clear c25b0 hcz33_0 hcz33_1 hcz33_2 hcz33_3 hfz33_0 hfz33_1 hfz33_2 hfz33_3
        obtain ⟨x61_3,rfl,HA,HK3,BK175,BK176,HB⟩:=hrel
        cases gk with
        | zero=>exact absurd HA.out (by simp [impl_SameDef.l1])
        | succ k3 =>
         have H:=HA.out
         clear HA
         simp only [impl_SameDef.l1] at H
         by_cases c34 : x61_3 < (l0_3.length : Int)
         ·rw [if_pos c34] at H
          have c34b0 : decide (x61_3 < (l0_3.length : Int)) = true:=decide_eq_true c34
          clear c34
          by_cases c35 : 0 ≤ x61_3
          ·rw [if_pos c35] at H
           have c35b0 : decide (0 ≤ x61_3) = true:=decide_eq_true c35
           clear c35
           by_cases c36 : x61_3 < (l0_3.length : Int)
           ·rw [if_pos c36] at H
            have c36b0 : decide (x61_3 < (l0_3.length : Int)) = true:=decide_eq_true c36
            clear c36
            by_cases c37 : x61_3 < (l1_3.length : Int)
            ·rw [if_pos c37] at H
             have c37b0 : decide (x61_3 < (l1_3.length : Int)) = true:=decide_eq_true c37
             clear c37
             by_cases c38 : ((rd_T148 l0_3 x61_3).f0).toList = ((rd_T148 l1_3 x61_3).f0).toList
             ·rw [if_pos c38] at H
              have c38b0 : (((rd_T148 l0_3 x61_3).f0).toList == ((rd_T148 l1_3 x61_3).f0).toList) = true:=beq_iff_eq.mpr c38
              have c38b1 : (((rd_T148 l0_3 x61_3).f0).toList != ((rd_T148 l1_3 x61_3).f0).toList) = false:=bne_eq_false_iff_eq.mpr c38
              clear c38
              by_cases c39 : (((rd_T148 l0_3 x61_3).f1) != ((rd_T148 l1_3 x61_3).f1)) = true
              ·rw [if_pos c39] at H
               have c39b0 : (((rd_T148 l0_3 x61_3).f1) != ((rd_T148 l1_3 x61_3).f1)) = true:=c39
               (try (have c39b1 : decide (((rd_T148 l0_3 x61_3).f1) = ((rd_T148 l1_3 x61_3).f1)) = false:=by simpa using c39))
               (try (have c39b2 : (((rd_T148 l0_3 x61_3).f1) == ((rd_T148 l1_3 x61_3).f1)) = false:=by simpa using c39))
               (try (have c39b3 : ¬ (((rd_T148 l0_3 x61_3).f1) = ((rd_T148 l1_3 x61_3).f1)):=by simpa using c39))
               clear c39
               obtain rfl:=Option.some.inj H
               try go_wp2
               have n0_:=aM_ (kD_ BK175.out)
               have n1_:=aM_ (kD_ BK176.out)
               have n2_:=aM_ (bD_ HB.out)
               clear BK175 BK176 HB
               have BK175:=n0_
               have BK176:=n1_
               have HB:=n2_
               clear n0_ n1_ n2_
               have p180 : 0 ≤ (x61_3 : Int):=oT_ (by first | (with_reducible assumption) | assumption)
               have q180 : x61_3 < (l0_3.length : Int):=oT_ (by first | (with_reducible assumption) | assumption)
               obtain ⟨ad180,A180_2,c180_2,e180,hx180_0,hx180_1,hx180_2,hl180_2,hi180_2⟩:=at_T148 HR0_3.out x61_3 p180 q180
               have hw180_2:=hx180_2
               have hw180_1:=hx180_1
               have hw180_0:=hx180_0
               cases e180
               replace hx180_0:=(HB.out.cell (wL_ w _ hx180_0)).trans hx180_0
               replace hx180_1:=(HB.out.cell (wL_ w _ hx180_1)).trans hx180_1
               replace hx180_2:=(HB.out.cell (wL_ w _ hx180_2)).trans hx180_2
               have HR180_2:=aM_ hi180_2
               have HC180_2:=aM_ hl180_2
               clear hi180_2 hl180_2
               replace p180:=eq_true p180
               replace q180:=eq_true q180
               have p181 : 0 ≤ (x61_3 : Int):=oT_ (by first | (with_reducible assumption) | assumption)
               have q181 : x61_3 < (l1_3.length : Int):=oT_ (by first | (with_reducible assumption) | assumption)
               obtain ⟨ad181,A181_2,c181_2,e181,hx181_0,hx181_1,hx181_2,hl181_2,hi181_2⟩:=at_T148 HR1_3.out x61_3 p181 q181
               have hw181_2:=hx181_2
               have hw181_1:=hx181_1
               have hw181_0:=hx181_0
               cases e181
               replace hx181_0:=(HB.out.cell (wL_ w _ hx181_0)).trans hx181_0
               replace hx181_1:=(HB.out.cell (wL_ w _ hx181_1)).trans hx181_1
               replace hx181_2:=(HB.out.cell (wL_ w _ hx181_2)).trans hx181_2
               have HR181_2:=aM_ hi181_2
               have HC181_2:=aM_ hl181_2
               clear hi181_2 hl181_2
               replace p181:=eq_true p181
               replace q181:=eq_true q181
               refine start_ (n:=14) (S:=fun w'=>w'.cell? ⟨gb175,0,none⟩ = some (.string a0_0) ∧ w'.cell? ⟨gb175,1,none⟩ = some (.slice A0_1 l0_1.length c0_1) ∧ w'.cell? ⟨gb175,2,none⟩ = some (.slice A0_2 l0_2.length c0_2) ∧ w'.cell? ⟨gb175,3,none⟩ = some (.slice (some ad180) l0_3.length c0_3) ∧ w'.cell? ⟨gb176,0,none⟩ = some (.string a1_0) ∧ w'.cell? ⟨gb176,1,none⟩ = some (.slice A1_1 l1_1.length c1_1) ∧ w'.cell? ⟨gb176,2,none⟩ = some (.slice A1_2 l1_2.length c1_2) ∧ w'.cell? ⟨gb176,3,none⟩ = some (.slice (some ad181) l1_3.length c1_3) ∧ w'.cell? (ad180.add ((x61_3).toNat * 3)) = some (.string ((rd_T148 l0_3 x61_3).f0)) ∧ w'.cell? ⟨(ad180.add ((x61_3).toNat * 3)).block,(ad180.add ((x61_3).toNat * 3)).off + 1,none⟩ = some (.bool ((rd_T148 l0_3 x61_3).f1)) ∧ w'.cell? ⟨(ad180.add ((x61_3).toNat * 3)).block,(ad180.add ((x61_3).toNat * 3)).off + 2,none⟩ = some (.slice A180_2 ((rd_T148 l0_3 x61_3).f2).length c180_2) ∧ w'.cell? (ad181.add ((x61_3).toNat * 3)) = some (.string ((rd_T148 l1_3 x61_3).f0)) ∧ w'.cell? ⟨(ad181.add ((x61_3).toNat * 3)).block,(ad181.add ((x61_3).toNat * 3)).off + 1,none⟩ = some (.bool ((rd_T148 l1_3 x61_3).f1)) ∧ w'.cell? ⟨(ad181.add ((x61_3).toNat * 3)).block,(ad181.add ((x61_3).toNat * 3)).off + 2,none⟩ = some (.slice A181_2 ((rd_T148 l1_3 x61_3).f2).length c181_2)) (ds:=[]) (tb_ 0 14) (by kernel_rfl) rfl rfl ⟨(kC_ BK175.out 0).trans rfl,(kC_ BK175.out 1).trans rfl,(kC_ BK175.out 2).trans rfl,(kC_ BK175.out 3).trans rfl,(kC_ BK176.out 0).trans rfl,(kC_ BK176.out 1).trans rfl,(kC_ BK176.out 2).trans rfl,(kC_ BK176.out 3).trans rfl,((HB.out.cell (wL_ w _ hw180_0)).trans hw180_0),((HB.out.cell (wL_ w _ hw180_1)).trans hw180_1),((HB.out.cell (wL_ w _ hw180_2)).trans hw180_2),((HB.out.cell (wL_ w _ hw181_0)).trans hw181_0),((HB.out.cell (wL_ w _ hw181_1)).trans hw181_1),((HB.out.cell (wL_ w _ hw181_2)).trans hw181_2)⟩ (fun hHeld=>?_);refine with_tabW impl_SameDef.tab12 impl_SameDef.bits12 (fun HT_ HW_=>?_)
               generalize wr.drew = w40 at BK175 BK176 HB HR180_2 HR181_2 hx180_0 hx180_1 hx180_2 hx181_0 hx181_1 hx181_2 hHeld ⊢
               refine pure_ (i:=0) (N:=some 64) (v:=?_) (a':=?_) (tb_ 1 13) rfl rfl (any_of HT_.out (by kernel_rfl)) (fun _ _ _ h=>h) (Or.inl ⟨by rfl,?_⟩) ?_ ?_
               rotate_left
               ·intro w'
                go_simp
                with_reducible rfl
               rotate_left
               ·simp only [Act.put,sI_,sZ_,sS_,i64_w,i32_w]
                rfl
               refine pure_ (i:=2) (N:=some 66) (v:=?_) (a':=?_) #[true,false,true,false,false,false,false,false,false,false,false,false,false,false] rfl rfl (any_of HT_.out (by kernel_rfl)) (fun _ _ _ h=>h) (Or.inl ⟨by rfl,?_⟩) ?_ ?_
               rotate_left
               ·intro w'
                go_simp
                with_reducible rfl
               rotate_left
               ·simp only [Act.put,sI_,sZ_,sS_,i64_w,i32_w]
                rfl
               refine pure_ (i:=5) (N:=some 69) (v:=?_) (a':=?_) #[true,false,true,false,false,true,false,false,false,false,false,false,false,false] rfl rfl (any_of HT_.out (by kernel_rfl)) (fun _ _ _ h=>h) (Or.inl ⟨by rfl,?_⟩) ?_ ?_
               rotate_left
               ·intro w'
                go_simp
                with_reducible rfl
               rotate_left
               ·simp only [Act.put,sI_,sZ_,sS_,i64_w,i32_w]
                rfl
               refine pure_ (i:=7) (N:=some 71) (v:=?_) (a':=?_) #[true,false,true,false,false,true,false,true,false,false,false,false,false,false] rfl rfl (any_of HT_.out (by kernel_rfl)) (fun _ _ _ h=>h) (Or.inl ⟨by rfl,?_⟩) ?_ ?_
               rotate_left
               ·intro w'
                go_simp
                with_reducible rfl
               rotate_left
               ·simp only [Act.put,sI_,sZ_,sS_,i64_w,i32_w]
                rfl
               refine take_ (i:=1) (N:=some 65) (v:=?_) (a':=?_) #[true,true,true,false,false,true,false,true,false,false,false,false,false,false] rfl rfl (take_ofW HT_.out HW_.out (by kernel_rfl)) (fun _ _ _ h=>h) (Or.inl ⟨by rfl,?_⟩) hHeld ?_ ?_
               rotate_left
               ·rintro w' ⟨s0,s1,s2,s3,s4,s5,s6,s7,s8,s9,s10,s11,s12,s13⟩
                go_simp
                with_reducible rfl
               rotate_left
               ·simp only [Act.put,sI_,sZ_,sS_,i64_w,i32_w]
                rfl
               refine pure_ (i:=3) (N:=some 67) (v:=?_) (a':=?_) #[true,true,true,true,false,true,false,true,false,false,false,false,false,false] rfl rfl (any_of HT_.out (by kernel_rfl)) (fun _ _ _ h=>h) (Or.inl ⟨by rfl,?_⟩) ?_ ?_
               rotate_left
               ·intro w'
                go_simp
                with_reducible rfl
               rotate_left
               ·simp only [Act.put,sI_,sZ_,sS_,i64_w,i32_w]
                rfl
               refine take_ (i:=4) (N:=some 68) (v:=?_) (a':=?_) #[true,true,true,true,true,true,false,true,false,false,false,false,false,false] rfl rfl (take_ofW HT_.out HW_.out (by kernel_rfl)) (fun _ _ _ h=>h) (Or.inl ⟨by rfl,?_⟩) hHeld ?_ ?_
               rotate_left
               ·rintro w' ⟨s0,s1,s2,s3,s4,s5,s6,s7,s8,s9,s10,s11,s12,s13⟩
                go_simp
                with_reducible rfl
               rotate_left
               ·simp only [Act.put,sI_,sZ_,sS_,i64_w,i32_w]
                rfl
               refine take_ (i:=6) (N:=some 70) (v:=?_) (a':=?_) (tb_ 8 6) rfl rfl (take_ofW HT_.out HW_.out (by kernel_rfl)) (fun _ _ _ h=>h) (Or.inl ⟨by rfl,?_⟩) hHeld ?_ ?_
               rotate_left
               ·rintro w' ⟨s0,s1,s2,s3,s4,s5,s6,s7,s8,s9,s10,s11,s12,s13⟩
                go_simp
                with_reducible rfl
               rotate_left
               ·simp only [Act.put,sI_,sZ_,sS_,i64_w,i32_w]
                rfl
               refine pure_ (i:=8) (N:=some 72) (v:=?_) (a':=?_) (tb_ 9 5) rfl rfl (any_of HT_.out (by kernel_rfl)) (fun _ _ _ h=>h) (Or.inl ⟨by rfl,?_⟩) ?_ ?_
               rotate_left
               ·intro w'
                go_simp
                with_reducible rfl
               rotate_left
               ·simp only [Act.put,sI_,sZ_,sS_,i64_w,i32_w]
                rfl
               refine take_ (i:=9) (N:=some 73) (v:=?_) (a':=?_) (tb_ 10 4) rfl rfl (take_ofW HT_.out HW_.out (by kernel_rfl)) (fun _ _ _ h=>h) (Or.inl ⟨by rfl,?_⟩) hHeld ?_ ?_
               rotate_left
               ·rintro w' ⟨s0,s1,s2,s3,s4,s5,s6,s7,s8,s9,s10,s11,s12,s13⟩
                go_simp
                with_reducible rfl
               rotate_left
               ·simp only [Act.put,sI_,sZ_,sS_,i64_w,i32_w]
                rfl
               refine join_ (σ:=Nat × Nat) 2 (tb_ 12 2) (fun s_=>[(7,.pointer (some ⟨s_.1,0,none⟩)),(8,.pointer (some ⟨s_.2,0,none⟩))]) (fun s_ w'=>(w'.cell? ⟨gb175,0,none⟩ = some (.string a0_0) ∧ w'.cell? ⟨gb175,1,none⟩ = some (.slice A0_1 l0_1.length c0_1) ∧ w'.cell? ⟨gb175,2,none⟩ = some (.slice A0_2 l0_2.length c0_2) ∧ w'.cell? ⟨gb175,3,none⟩ = some (.slice (some ad180) l0_3.length c0_3) ∧ w'.cell? ⟨gb176,0,none⟩ = some (.string a1_0) ∧ w'.cell? ⟨gb176,1,none⟩ = some (.slice A1_1 l1_1.length c1_1) ∧ w'.cell? ⟨gb176,2,none⟩ = some (.slice A1_2 l1_2.length c1_2) ∧ w'.cell? ⟨gb176,3,none⟩ = some (.slice (some ad181) l1_3.length c1_3) ∧ w'.cell? (ad180.add ((x61_3).toNat * 3)) = some (.string ((rd_T148 l0_3 x61_3).f0)) ∧ w'.cell? ⟨(ad180.add ((x61_3).toNat * 3)).block,(ad180.add ((x61_3).toNat * 3)).off + 1,none⟩ = some (.bool ((rd_T148 l0_3 x61_3).f1)) ∧ w'.cell? ⟨(ad180.add ((x61_3).toNat * 3)).block,(ad180.add ((x61_3).toNat * 3)).off + 2,none⟩ = some (.slice A180_2 ((rd_T148 l0_3 x61_3).f2).length c180_2) ∧ w'.cell? (ad181.add ((x61_3).toNat * 3)) = some (.string ((rd_T148 l1_3 x61_3).f0)) ∧ w'.cell? ⟨(ad181.add ((x61_3).toNat * 3)).block,(ad181.add ((x61_3).toNat * 3)).off + 1,none⟩ = some (.bool ((rd_T148 l1_3 x61_3).f1)) ∧ w'.cell? ⟨(ad181.add ((x61_3).toNat * 3)).block,(ad181.add ((x61_3).toNat * 3)).off + 2,none⟩ = some (.slice A181_2 ((rd_T148 l1_3 x61_3).f2).length c181_2)) ∧ (w'.heap[gb175]? = some (.cells #[.string a0_0,.slice A0_1 l0_1.length c0_1,.slice A0_2 l0_2.length c0_2,.slice (some ad180) l0_3.length c0_3] 87 (0,0))) ∧ (w'.heap[gb176]? = some (.cells #[.string a1_0,.slice A1_1 l1_1.length c1_1,.slice A1_2 l1_2.length c1_2,.slice (some ad181) l1_3.length c1_3] 87 (0,0))) ∧ (w'.heap[s_.1]? = some (.cells #[.string (⟨#[]⟩ : ByteArray),.bool false,.slice none 0 0] 148 (0,0))) ∧ (w'.heap[s_.2]? = some (.cells #[.string (⟨#[]⟩ : ByteArray),.bool false,.slice none 0 0] 148 (0,0))) ∧ (w.heap.size ≤ s_.1) ∧ (w.heap.size ≤ s_.1) ∧ (gb175 ≠ s_.1) ∧ (s_.1 ≠ gb175) ∧ (gb176 ≠ s_.1) ∧ (s_.1 ≠ gb176) ∧ (s_.2 ≠ s_.1) ∧ (s_.1 ≠ s_.2) ∧ (w.heap.size ≤ s_.2) ∧ (w.heap.size ≤ s_.2) ∧ (gb175 ≠ s_.2) ∧ (s_.2 ≠ gb175) ∧ (gb176 ≠ s_.2) ∧ (s_.2 ≠ gb176) ∧ (Below w.heap.size w w')) ?_ ?_
               rotate_left
               ·intro hCont
                refine two_ (i:=10) (j:=11) (Ni:=some 7) (Nj:=some 8) (tb_ 11 3) #[true,true,true,true,true,true,true,true,true,true,false,true,false,false] rfl rfl rfl rfl (two_of HT_.out (by kernel_rfl)) (by decide) (by decide) (fun K hK=>?_) (fun K hK=>?_)
                ·skip
                 refine box_step ?hg (N:=7) ?hd (cs:=#[.string (⟨#[]⟩ : ByteArray),.bool false,.slice none 0 0]) (t:=148) ?hr ?_;(case hd=>rfl);(case hg=>rfl);(case hr=>first | (go_simp;done) | (go_simp;rfl))
                 intro gb182 hg w41 hbox hb
                 have n0_:=aM_ (blk_below (g:=gb175) (o:=.cells #[.string a0_0,.slice A0_1 l0_1.length c0_1,.slice A0_2 l0_2.length c0_2,.slice (some ad180) l0_3.length c0_3] 87 (0,0)) (by exact kZ_ BK175) hb)
                 have n1_:=aM_ (blk_below (g:=gb176) (o:=.cells #[.string a1_0,.slice A1_1 l1_1.length c1_1,.slice A1_2 l1_2.length c1_2,.slice (some ad181) l1_3.length c1_3] 87 (0,0)) (by exact kZ_ BK176) hb)
                 have n2_:=aM_ (bT_ (by exact bZ_ HB) hb)
                 have n3_:=aM_ (hbox)
                 have n4_:=aM_ ((by rw [hg];exact (bS_ (by exact bZ_ HB)) : w.heap.size ≤ gb182))
                 have n5_:=aM_ ((by rw [hg];exact (bS_ (by exact bZ_ HB)) : w.heap.size ≤ gb182))
                 have n6_:=aM_ ((by rw [hg];exact nN_ (blk_lt (g:=gb175) (o:=.cells #[.string a0_0,.slice A0_1 l0_1.length c0_1,.slice A0_2 l0_2.length c0_2,.slice (some ad180) l0_3.length c0_3] 87 (0,0)) (by exact kZ_ BK175)) : gb175 ≠ gb182))
                 have n7_:=aM_ ((by rw [hg];exact Nat.ne_of_gt (blk_lt (g:=gb175) (o:=.cells #[.string a0_0,.slice A0_1 l0_1.length c0_1,.slice A0_2 l0_2.length c0_2,.slice (some ad180) l0_3.length c0_3] 87 (0,0)) (by exact kZ_ BK175)) : gb182 ≠ gb175))
                 have n8_:=aM_ ((by rw [hg];exact nN_ (blk_lt (g:=gb176) (o:=.cells #[.string a1_0,.slice A1_1 l1_1.length c1_1,.slice A1_2 l1_2.length c1_2,.slice (some ad181) l1_3.length c1_3] 87 (0,0)) (by exact kZ_ BK176)) : gb176 ≠ gb182))
                 have n9_:=aM_ ((by rw [hg];exact Nat.ne_of_gt (blk_lt (g:=gb176) (o:=.cells #[.string a1_0,.slice A1_1 l1_1.length c1_1,.slice A1_2 l1_2.length c1_2,.slice (some ad181) l1_3.length c1_3] 87 (0,0)) (by exact kZ_ BK176)) : gb182 ≠ gb176))
                 clear BK175 BK176 HB
                 have BK175:=n0_
                 have BK176:=n1_
                 have HB:=n2_
                 have BK182:=n3_
                 have GW182:=n4_
                 have GE182:=n5_
                 have NB175_182:=n6_
                 have NB182_175:=n7_
                 have NB176_182:=n8_
                 have NB182_176:=n9_
                 clear n0_ n1_ n2_ n3_ n4_ n5_ n6_ n7_ n8_ n9_ hb hbox hg
                 refine hK.out _ _ ⟨(kC_ BK175.out 0).trans rfl,(kC_ BK175.out 1).trans rfl,(kC_ BK175.out 2).trans rfl,(kC_ BK175.out 3).trans rfl,(kC_ BK176.out 0).trans rfl,(kC_ BK176.out 1).trans rfl,(kC_ BK176.out 2).trans rfl,(kC_ BK176.out 3).trans rfl,((HB.out.cell (wL_ w _ hw180_0)).trans hw180_0),((HB.out.cell (wL_ w _ hw180_1)).trans hw180_1),((HB.out.cell (wL_ w _ hw180_2)).trans hw180_2),((HB.out.cell (wL_ w _ hw181_0)).trans hw181_0),((HB.out.cell (wL_ w _ hw181_1)).trans hw181_1),((HB.out.cell (wL_ w _ hw181_2)).trans hw181_2)⟩ (fun hHeld=>?_)
                 clear hK K
                 refine norm_ (a':=?_) ?_ ?_
                 rotate_left
                 ·show Act.put _ (some 7) _ = _
                  simp only [Act.put,sI_,sZ_,sS_,i64_w,i32_w]
                  rfl
                 refine one_ (i:=11) (N:=some 8) (tb_ 12 2) rfl rfl (one_of HT_.out (by kernel_rfl)) (by decide) (fun K hK=>?_)
                 refine box_step ?hg (N:=8) ?hd (cs:=#[.string (⟨#[]⟩ : ByteArray),.bool false,.slice none 0 0]) (t:=148) ?hr ?_;(case hd=>rfl);(case hg=>rfl);(case hr=>first | (go_simp;done) | (go_simp;rfl))
                 intro gb183 hg w42 hbox hb
                 have n0_:=aM_ (blk_below (g:=gb175) (o:=.cells #[.string a0_0,.slice A0_1 l0_1.length c0_1,.slice A0_2 l0_2.length c0_2,.slice (some ad180) l0_3.length c0_3] 87 (0,0)) (by exact kZ_ BK175) hb)
                 have n1_:=aM_ (blk_below (g:=gb176) (o:=.cells #[.string a1_0,.slice A1_1 l1_1.length c1_1,.slice A1_2 l1_2.length c1_2,.slice (some ad181) l1_3.length c1_3] 87 (0,0)) (by exact kZ_ BK176) hb)
                 have n2_:=aM_ (blk_below (g:=gb182) (o:=.cells #[.string (⟨#[]⟩ : ByteArray),.bool false,.slice none 0 0] 148 (0,0)) (by exact kZ_ BK182) hb)
                 have n3_:=aM_ (bT_ (by exact bZ_ HB) hb)
                 have n4_:=aM_ (hbox)
                 have n5_:=aM_ ((by rw [hg];exact (bS_ (by exact bZ_ HB)) : w.heap.size ≤ gb183))
                 have n6_:=aM_ ((by rw [hg];exact (bS_ (by exact bZ_ HB)) : w.heap.size ≤ gb183))
                 have n7_:=aM_ ((by rw [hg];exact nN_ (blk_lt (g:=gb175) (o:=.cells #[.string a0_0,.slice A0_1 l0_1.length c0_1,.slice A0_2 l0_2.length c0_2,.slice (some ad180) l0_3.length c0_3] 87 (0,0)) (by exact kZ_ BK175)) : gb175 ≠ gb183))
                 have n8_:=aM_ ((by rw [hg];exact Nat.ne_of_gt (blk_lt (g:=gb175) (o:=.cells #[.string a0_0,.slice A0_1 l0_1.length c0_1,.slice A0_2 l0_2.length c0_2,.slice (some ad180) l0_3.length c0_3] 87 (0,0)) (by exact kZ_ BK175)) : gb183 ≠ gb175))
                 have n9_:=aM_ ((by rw [hg];exact nN_ (blk_lt (g:=gb176) (o:=.cells #[.string a1_0,.slice A1_1 l1_1.length c1_1,.slice A1_2 l1_2.length c1_2,.slice (some ad181) l1_3.length c1_3] 87 (0,0)) (by exact kZ_ BK176)) : gb176 ≠ gb183))
                 have n10_:=aM_ ((by rw [hg];exact Nat.ne_of_gt (blk_lt (g:=gb176) (o:=.cells #[.string a1_0,.slice A1_1 l1_1.length c1_1,.slice A1_2 l1_2.length c1_2,.slice (some ad181) l1_3.length c1_3] 87 (0,0)) (by exact kZ_ BK176)) : gb183 ≠ gb176))
                 have n11_:=aM_ ((by rw [hg];exact nN_ (blk_lt (g:=gb182) (o:=.cells #[.string (⟨#[]⟩ : ByteArray),.bool false,.slice none 0 0] 148 (0,0)) (by exact kZ_ BK182)) : gb182 ≠ gb183))
                 have n12_:=aM_ ((by rw [hg];exact Nat.ne_of_gt (blk_lt (g:=gb182) (o:=.cells #[.string (⟨#[]⟩ : ByteArray),.bool false,.slice none 0 0] 148 (0,0)) (by exact kZ_ BK182)) : gb183 ≠ gb182))
                 clear BK175 BK176 BK182 HB
                 have BK175:=n0_
                 have BK176:=n1_
                 have BK182:=n2_
                 have HB:=n3_
                 have BK183:=n4_
                 have GW183:=n5_
                 have GE183:=n6_
                 have NB175_183:=n7_
                 have NB183_175:=n8_
                 have NB176_183:=n9_
                 have NB183_176:=n10_
                 have NB182_183:=n11_
                 have NB183_182:=n12_
                 clear n0_ n1_ n2_ n3_ n4_ n5_ n6_ n7_ n8_ n9_ n10_ n11_ n12_ hb hbox hg
                 refine hK.out _ _ ⟨(kC_ BK175.out 0).trans rfl,(kC_ BK175.out 1).trans rfl,(kC_ BK175.out 2).trans rfl,(kC_ BK175.out 3).trans rfl,(kC_ BK176.out 0).trans rfl,(kC_ BK176.out 1).trans rfl,(kC_ BK176.out 2).trans rfl,(kC_ BK176.out 3).trans rfl,((HB.out.cell (wL_ w _ hw180_0)).trans hw180_0),((HB.out.cell (wL_ w _ hw180_1)).trans hw180_1),((HB.out.cell (wL_ w _ hw180_2)).trans hw180_2),((HB.out.cell (wL_ w _ hw181_0)).trans hw181_0),((HB.out.cell (wL_ w _ hw181_1)).trans hw181_1),((HB.out.cell (wL_ w _ hw181_2)).trans hw181_2)⟩ (fun hHeld=>?_)
                 clear hK K
                 refine norm_ (a':=?_) ?_ ?_
                 rotate_left
                 ·show Act.put _ (some 8) _ = _
                  simp only [Act.put,sI_,sZ_,sS_,i64_w,i32_w]
                  rfl
                 exact norm_ (by simp only [putAll,Act.put,sI_,sZ_,sS_]) (hCont (gb182,gb183) _ ⟨hHeld,(by exact kZ_ BK175),(by exact kZ_ BK176),(by exact kZ_ BK182),(by exact kZ_ BK183),GW182.out,GE182.out,NB175_182.out,NB182_175.out,NB176_182.out,NB182_176.out,NB183_182.out,NB182_183.out,GW183.out,GE183.out,NB175_183.out,NB183_175.out,NB176_183.out,NB183_176.out,(by exact bZ_ HB)⟩)
                ·skip
                 refine box_step ?hg (N:=8) ?hd (cs:=#[.string (⟨#[]⟩ : ByteArray),.bool false,.slice none 0 0]) (t:=148) ?hr ?_;(case hd=>rfl);(case hg=>rfl);(case hr=>first | (go_simp;done) | (go_simp;rfl))
                 intro gb183 hg w41 hbox hb
                 have n0_:=aM_ (blk_below (g:=gb175) (o:=.cells #[.string a0_0,.slice A0_1 l0_1.length c0_1,.slice A0_2 l0_2.length c0_2,.slice (some ad180) l0_3.length c0_3] 87 (0,0)) (by exact kZ_ BK175) hb)
                 have n1_:=aM_ (blk_below (g:=gb176) (o:=.cells #[.string a1_0,.slice A1_1 l1_1.length c1_1,.slice A1_2 l1_2.length c1_2,.slice (some ad181) l1_3.length c1_3] 87 (0,0)) (by exact kZ_ BK176) hb)
                 have n2_:=aM_ (bT_ (by exact bZ_ HB) hb)
                 have n3_:=aM_ (hbox)
                 have n4_:=aM_ ((by rw [hg];exact (bS_ (by exact bZ_ HB)) : w.heap.size ≤ gb183))
                 have n5_:=aM_ ((by rw [hg];exact (bS_ (by exact bZ_ HB)) : w.heap.size ≤ gb183))
                 have n6_:=aM_ ((by rw [hg];exact nN_ (blk_lt (g:=gb175) (o:=.cells #[.string a0_0,.slice A0_1 l0_1.length c0_1,.slice A0_2 l0_2.length c0_2,.slice (some ad180) l0_3.length c0_3] 87 (0,0)) (by exact kZ_ BK175)) : gb175 ≠ gb183))
                 have n7_:=aM_ ((by rw [hg];exact Nat.ne_of_gt (blk_lt (g:=gb175) (o:=.cells #[.string a0_0,.slice A0_1 l0_1.length c0_1,.slice A0_2 l0_2.length c0_2,.slice (some ad180) l0_3.length c0_3] 87 (0,0)) (by exact kZ_ BK175)) : gb183 ≠ gb175))
                 have n8_:=aM_ ((by rw [hg];exact nN_ (blk_lt (g:=gb176) (o:=.cells #[.string a1_0,.slice A1_1 l1_1.length c1_1,.slice A1_2 l1_2.length c1_2,.slice (some ad181) l1_3.length c1_3] 87 (0,0)) (by exact kZ_ BK176)) : gb176 ≠ gb183))
                 have n9_:=aM_ ((by rw [hg];exact Nat.ne_of_gt (blk_lt (g:=gb176) (o:=.cells #[.string a1_0,.slice A1_1 l1_1.length c1_1,.slice A1_2 l1_2.length c1_2,.slice (some ad181) l1_3.length c1_3] 87 (0,0)) (by exact kZ_ BK176)) : gb183 ≠ gb176))
                 clear BK175 BK176 HB
                 have BK175:=n0_
                 have BK176:=n1_
                 have HB:=n2_
                 have BK183:=n3_
                 have GW183:=n4_
                 have GE183:=n5_
                 have NB175_183:=n6_
                 have NB183_175:=n7_
                 have NB176_183:=n8_
                 have NB183_176:=n9_
                 clear n0_ n1_ n2_ n3_ n4_ n5_ n6_ n7_ n8_ n9_ hb hbox hg
                 refine hK.out _ _ ⟨(kC_ BK175.out 0).trans rfl,(kC_ BK175.out 1).trans rfl,(kC_ BK175.out 2).trans rfl,(kC_ BK175.out 3).trans rfl,(kC_ BK176.out 0).trans rfl,(kC_ BK176.out 1).trans rfl,(kC_ BK176.out 2).trans rfl,(kC_ BK176.out 3).trans rfl,((HB.out.cell (wL_ w _ hw180_0)).trans hw180_0),((HB.out.cell (wL_ w _ hw180_1)).trans hw180_1),((HB.out.cell (wL_ w _ hw180_2)).trans hw180_2),((HB.out.cell (wL_ w _ hw181_0)).trans hw181_0),((HB.out.cell (wL_ w _ hw181_1)).trans hw181_1),((HB.out.cell (wL_ w _ hw181_2)).trans hw181_2)⟩ (fun hHeld=>?_)
                 clear hK K
                 refine norm_ (a':=?_) ?_ ?_
                 rotate_left
                 ·show Act.put _ (some 8) _ = _
                  simp only [Act.put,sI_,sZ_,sS_,i64_w,i32_w]
                  rfl
                 refine one_ (i:=10) (N:=some 7) (tb_ 12 2) rfl rfl (one_of HT_.out (by kernel_rfl)) (by decide) (fun K hK=>?_)
                 refine box_step ?hg (N:=7) ?hd (cs:=#[.string (⟨#[]⟩ : ByteArray),.bool false,.slice none 0 0]) (t:=148) ?hr ?_;(case hd=>rfl);(case hg=>rfl);(case hr=>first | (go_simp;done) | (go_simp;rfl))
                 intro gb182 hg w42 hbox hb
                 have n0_:=aM_ (blk_below (g:=gb175) (o:=.cells #[.string a0_0,.slice A0_1 l0_1.length c0_1,.slice A0_2 l0_2.length c0_2,.slice (some ad180) l0_3.length c0_3] 87 (0,0)) (by exact kZ_ BK175) hb)
                 have n1_:=aM_ (blk_below (g:=gb176) (o:=.cells #[.string a1_0,.slice A1_1 l1_1.length c1_1,.slice A1_2 l1_2.length c1_2,.slice (some ad181) l1_3.length c1_3] 87 (0,0)) (by exact kZ_ BK176) hb)
                 have n2_:=aM_ (blk_below (g:=gb183) (o:=.cells #[.string (⟨#[]⟩ : ByteArray),.bool false,.slice none 0 0] 148 (0,0)) (by exact kZ_ BK183) hb)
                 have n3_:=aM_ (bT_ (by exact bZ_ HB) hb)
                 have n4_:=aM_ (hbox)
                 have n5_:=aM_ ((by rw [hg];exact (bS_ (by exact bZ_ HB)) : w.heap.size ≤ gb182))
                 have n6_:=aM_ ((by rw [hg];exact (bS_ (by exact bZ_ HB)) : w.heap.size ≤ gb182))
                 have n7_:=aM_ ((by rw [hg];exact nN_ (blk_lt (g:=gb175) (o:=.cells #[.string a0_0,.slice A0_1 l0_1.length c0_1,.slice A0_2 l0_2.length c0_2,.slice (some ad180) l0_3.length c0_3] 87 (0,0)) (by exact kZ_ BK175)) : gb175 ≠ gb182))
                 have n8_:=aM_ ((by rw [hg];exact Nat.ne_of_gt (blk_lt (g:=gb175) (o:=.cells #[.string a0_0,.slice A0_1 l0_1.length c0_1,.slice A0_2 l0_2.length c0_2,.slice (some ad180) l0_3.length c0_3] 87 (0,0)) (by exact kZ_ BK175)) : gb182 ≠ gb175))
                 have n9_:=aM_ ((by rw [hg];exact nN_ (blk_lt (g:=gb176) (o:=.cells #[.string a1_0,.slice A1_1 l1_1.length c1_1,.slice A1_2 l1_2.length c1_2,.slice (some ad181) l1_3.length c1_3] 87 (0,0)) (by exact kZ_ BK176)) : gb176 ≠ gb182))
                 have n10_:=aM_ ((by rw [hg];exact Nat.ne_of_gt (blk_lt (g:=gb176) (o:=.cells #[.string a1_0,.slice A1_1 l1_1.length c1_1,.slice A1_2 l1_2.length c1_2,.slice (some ad181) l1_3.length c1_3] 87 (0,0)) (by exact kZ_ BK176)) : gb182 ≠ gb176))
                 have n11_:=aM_ ((by rw [hg];exact nN_ (blk_lt (g:=gb183) (o:=.cells #[.string (⟨#[]⟩ : ByteArray),.bool false,.slice none 0 0] 148 (0,0)) (by exact kZ_ BK183)) : gb183 ≠ gb182))
                 have n12_:=aM_ ((by rw [hg];exact Nat.ne_of_gt (blk_lt (g:=gb183) (o:=.cells #[.string (⟨#[]⟩ : ByteArray),.bool false,.slice none 0 0] 148 (0,0)) (by exact kZ_ BK183)) : gb182 ≠ gb183))
                 clear BK175 BK176 BK183 HB
                 have BK175:=n0_
                 have BK176:=n1_
                 have BK183:=n2_
                 have HB:=n3_
                 have BK182:=n4_
                 have GW182:=n5_
                 have GE182:=n6_
                 have NB175_182:=n7_
                 have NB182_175:=n8_
                 have NB176_182:=n9_
                 have NB182_176:=n10_
                 have NB183_182:=n11_
                 have NB182_183:=n12_
                 clear n0_ n1_ n2_ n3_ n4_ n5_ n6_ n7_ n8_ n9_ n10_ n11_ n12_ hb hbox hg
                 refine hK.out _ _ ⟨(kC_ BK175.out 0).trans rfl,(kC_ BK175.out 1).trans rfl,(kC_ BK175.out 2).trans rfl,(kC_ BK175.out 3).trans rfl,(kC_ BK176.out 0).trans rfl,(kC_ BK176.out 1).trans rfl,(kC_ BK176.out 2).trans rfl,(kC_ BK176.out 3).trans rfl,((HB.out.cell (wL_ w _ hw180_0)).trans hw180_0),((HB.out.cell (wL_ w _ hw180_1)).trans hw180_1),((HB.out.cell (wL_ w _ hw180_2)).trans hw180_2),((HB.out.cell (wL_ w _ hw181_0)).trans hw181_0),((HB.out.cell (wL_ w _ hw181_1)).trans hw181_1),((HB.out.cell (wL_ w _ hw181_2)).trans hw181_2)⟩ (fun hHeld=>?_)
                 clear hK K
                 refine norm_ (a':=?_) ?_ ?_
                 rotate_left
                 ·show Act.put _ (some 7) _ = _
                  simp only [Act.put,sI_,sZ_,sS_,i64_w,i32_w]
                  rfl
                 exact norm_ (by simp only [putAll,Act.put,sI_,sZ_,sS_]) (hCont (gb182,gb183) _ ⟨hHeld,(by exact kZ_ BK175),(by exact kZ_ BK176),(by exact kZ_ BK182),(by exact kZ_ BK183),GW182.out,GE182.out,NB175_182.out,NB182_175.out,NB176_182.out,NB182_176.out,NB183_182.out,NB182_183.out,GW183.out,GE183.out,NB175_183.out,NB183_175.out,NB176_183.out,NB183_176.out,(by exact bZ_ HB)⟩)
               rintro ⟨gb182,gb183⟩ w43 ⟨hS_,h0_,h1_,h2_,h3_,h4_,h5_,h6_,h7_,h8_,h9_,h10_,h11_,h12_,h13_,h14_,h15_,h16_,h17_,h18_⟩
               have n0_ : Aside0 (w43.heap[gb175]? = some (.cells #[.string a0_0,.slice A0_1 l0_1.length c0_1,.slice A0_2 l0_2.length c0_2,.slice (some ad180) l0_3.length c0_3] 87 (0,0))):=⟨h0_⟩
               have n1_ : Aside0 (w43.heap[gb176]? = some (.cells #[.string a1_0,.slice A1_1 l1_1.length c1_1,.slice A1_2 l1_2.length c1_2,.slice (some ad181) l1_3.length c1_3] 87 (0,0))):=⟨h1_⟩
               have n2_ : Aside0 (w43.heap[gb182]? = some (.cells #[.string (⟨#[]⟩ : ByteArray),.bool false,.slice none 0 0] 148 (0,0))):=⟨h2_⟩
               have n3_ : Aside0 (w43.heap[gb183]? = some (.cells #[.string (⟨#[]⟩ : ByteArray),.bool false,.slice none 0 0] 148 (0,0))):=⟨h3_⟩
               have n4_ : Aside0 (w.heap.size ≤ gb182):=⟨h4_⟩
               have n5_ : Aside0 (w.heap.size ≤ gb182):=⟨h5_⟩
               have n6_ : Aside0 (gb175 ≠ gb182):=⟨h6_⟩
               have n7_ : Aside0 (gb182 ≠ gb175):=⟨h7_⟩
               have n8_ : Aside0 (gb176 ≠ gb182):=⟨h8_⟩
               have n9_ : Aside0 (gb182 ≠ gb176):=⟨h9_⟩
               have n10_ : Aside0 (gb183 ≠ gb182):=⟨h10_⟩
               have n11_ : Aside0 (gb182 ≠ gb183):=⟨h11_⟩
               have n12_ : Aside0 (w.heap.size ≤ gb183):=⟨h12_⟩
               have n13_ : Aside0 (w.heap.size ≤ gb183):=⟨h13_⟩
               have n14_ : Aside0 (gb175 ≠ gb183):=⟨h14_⟩
               have n15_ : Aside0 (gb183 ≠ gb175):=⟨h15_⟩
               have n16_ : Aside0 (gb176 ≠ gb183):=⟨h16_⟩
               have n17_ : Aside0 (gb183 ≠ gb176):=⟨h17_⟩
               have n18_ : Aside0 (Below w.heap.size w w43):=⟨h18_⟩
               clear BK175 BK176 HB h0_ h1_ h2_ h3_ h4_ h5_ h6_ h7_ h8_ h9_ h10_ h11_ h12_ h13_ h14_ h15_ h16_ h17_ h18_
               have BK175:=n0_
               have BK176:=n1_
               have BK182:=n2_
               have BK183:=n3_
               have GW182:=n4_
               have GE182:=n5_
               have NB175_182:=n6_
               have NB182_175:=n7_
               have NB176_182:=n8_
               have NB182_176:=n9_
               have NB183_182:=n10_
               have NB182_183:=n11_
               have GW183:=n12_
               have GE183:=n13_
               have NB175_183:=n14_
               have NB183_175:=n15_
               have NB176_183:=n16_
               have NB183_176:=n17_
               have HB:=n18_
               clear n0_ n1_ n2_ n3_ n4_ n5_ n6_ n7_ n8_ n9_ n10_ n11_ n12_ n13_ n14_ n15_ n16_ n17_ n18_
               have hHeld : w43.cell? ⟨gb175,0,none⟩ = some (.string a0_0) ∧ w43.cell? ⟨gb175,1,none⟩ = some (.slice A0_1 l0_1.length c0_1) ∧ w43.cell? ⟨gb175,2,none⟩ = some (.slice A0_2 l0_2.length c0_2) ∧ w43.cell? ⟨gb175,3,none⟩ = some (.slice (some ad180) l0_3.length c0_3) ∧ w43.cell? ⟨gb176,0,none⟩ = some (.string a1_0) ∧ w43.cell? ⟨gb176,1,none⟩ = some (.slice A1_1 l1_1.length c1_1) ∧ w43.cell? ⟨gb176,2,none⟩ = some (.slice A1_2 l1_2.length c1_2) ∧ w43.cell? ⟨gb176,3,none⟩ = some (.slice (some ad181) l1_3.length c1_3) ∧ w43.cell? (ad180.add ((x61_3).toNat * 3)) = some (.string ((rd_T148 l0_3 x61_3).f0)) ∧ w43.cell? ⟨(ad180.add ((x61_3).toNat * 3)).block,(ad180.add ((x61_3).toNat * 3)).off + 1,none⟩ = some (.bool ((rd_T148 l0_3 x61_3).f1)) ∧ w43.cell? ⟨(ad180.add ((x61_3).toNat * 3)).block,(ad180.add ((x61_3).toNat * 3)).off + 2,none⟩ = some (.slice A180_2 ((rd_T148 l0_3 x61_3).f2).length c180_2) ∧ w43.cell? (ad181.add ((x61_3).toNat * 3)) = some (.string ((rd_T148 l1_3 x61_3).f0)) ∧ w43.cell? ⟨(ad181.add ((x61_3).toNat * 3)).block,(ad181.add ((x61_3).toNat * 3)).off + 1,none⟩ = some (.bool ((rd_T148 l1_3 x61_3).f1)) ∧ w43.cell? ⟨(ad181.add ((x61_3).toNat * 3)).block,(ad181.add ((x61_3).toNat * 3)).off + 2,none⟩ = some (.slice A181_2 ((rd_T148 l1_3 x61_3).f2).length c181_2):=hS_
               refine norm_ (a':=?_) ?_ ?_
               rotate_left
               ·simp only [putAll,Act.put,sI_,sZ_,sS_]
                rfl
               refine one_ (i:=12) (N:=none) (tb_ 13 1) rfl rfl (one_of HT_.out (by kernel_rfl)) (by decide) (fun K hK=>?_)
               have hs44 : w43.cell? ⟨gb182,0,none⟩ = some (.string (⟨#[]⟩ : ByteArray)):=(kC_ BK182.out 0).trans rfl
               have hfs44:=kF_ BK182.out 0
               have hns44_0:=NB175_182.out
               have hns44_1:=NB176_182.out
               have hns44_3:=NB183_182.out
               have hms44_0:=NB182_175.out
               have hms44_1:=NB182_176.out
               have hms44_3:=NB182_183.out
               have hs45 : w43.cell? ⟨gb182,1,none⟩ = some (.bool false):=(kC_ BK182.out 1).trans rfl
               have hfs45:=kF_ BK182.out 1
               have hns45_0:=NB175_182.out
               have hns45_1:=NB176_182.out
               have hns45_3:=NB183_182.out
               have hms45_0:=NB182_175.out
               have hms45_1:=NB182_176.out
               have hms45_3:=NB182_183.out
               have hs46 : w43.cell? ⟨gb182,2,none⟩ = some (.slice none 0 0):=(kC_ BK182.out 2).trans rfl
               have hfs46:=kF_ BK182.out 2
               have hns46_0:=NB175_182.out
               have hns46_1:=NB176_182.out
               have hns46_3:=NB183_182.out
               have hms46_0:=NB182_175.out
               have hms46_1:=NB182_176.out
               have hms46_3:=NB182_183.out
               refine skip_ (w1:=?_) (by rfl) rfl ?_ ?_
               rotate_left
               ·go_simp
                rfl
               refine hK.out _ _ ⟨((cell_far (p:=⟨gb182,_,none⟩) NB175_182.out _).trans (((cell_far (p:=⟨gb182,_,none⟩) NB175_182.out _).trans (((cell_far (p:=⟨gb182,_,none⟩) NB175_182.out _).trans (hHeld.1)))))),((cell_far (p:=⟨gb182,_,none⟩) NB175_182.out _).trans (((cell_far (p:=⟨gb182,_,none⟩) NB175_182.out _).trans (((cell_far (p:=⟨gb182,_,none⟩) NB175_182.out _).trans (hHeld.2.1)))))),((cell_far (p:=⟨gb182,_,none⟩) NB175_182.out _).trans (((cell_far (p:=⟨gb182,_,none⟩) NB175_182.out _).trans (((cell_far (p:=⟨gb182,_,none⟩) NB175_182.out _).trans (hHeld.2.2.1)))))),((cell_far (p:=⟨gb182,_,none⟩) NB175_182.out _).trans (((cell_far (p:=⟨gb182,_,none⟩) NB175_182.out _).trans (((cell_far (p:=⟨gb182,_,none⟩) NB175_182.out _).trans (hHeld.2.2.2.1)))))),((cell_far (p:=⟨gb182,_,none⟩) NB176_182.out _).trans (((cell_far (p:=⟨gb182,_,none⟩) NB176_182.out _).trans (((cell_far (p:=⟨gb182,_,none⟩) NB176_182.out _).trans (hHeld.2.2.2.2.1)))))),((cell_far (p:=⟨gb182,_,none⟩) NB176_182.out _).trans (((cell_far (p:=⟨gb182,_,none⟩) NB176_182.out _).trans (((cell_far (p:=⟨gb182,_,none⟩) NB176_182.out _).trans (hHeld.2.2.2.2.2.1)))))),((cell_far (p:=⟨gb182,_,none⟩) NB176_182.out _).trans (((cell_far (p:=⟨gb182,_,none⟩) NB176_182.out _).trans (((cell_far (p:=⟨gb182,_,none⟩) NB176_182.out _).trans (hHeld.2.2.2.2.2.2.1)))))),((cell_far (p:=⟨gb182,_,none⟩) NB176_182.out _).trans (((cell_far (p:=⟨gb182,_,none⟩) NB176_182.out _).trans (((cell_far (p:=⟨gb182,_,none⟩) NB176_182.out _).trans (hHeld.2.2.2.2.2.2.2.1)))))),((cell_far (p:=⟨gb182,_,none⟩) (by first | exact nN_ (nL_ (by have:=wL_ _ _ hw180_0;first | rwa [add_block] at this | exact this) GW182.out) | (rw [add_block];exact nN_ (nL_ (by have:=wL_ _ _ hw180_0;first | rwa [add_block] at this | exact this) GW182.out)) | (show (Addr.add _ _).block ≠ _;rw [add_block];exact nN_ (nL_ (by have:=wL_ _ _ hw180_0;first | rwa [add_block] at this | exact this) GW182.out)) | (dsimp only;exact nN_ (nL_ (by have:=wL_ _ _ hw180_0;first | rwa [add_block] at this | exact this) GW182.out))) _).trans (((cell_far (p:=⟨gb182,_,none⟩) (by first | exact nN_ (nL_ (by have:=wL_ _ _ hw180_0;first | rwa [add_block] at this | exact this) GW182.out) | (rw [add_block];exact nN_ (nL_ (by have:=wL_ _ _ hw180_0;first | rwa [add_block] at this | exact this) GW182.out)) | (show (Addr.add _ _).block ≠ _;rw [add_block];exact nN_ (nL_ (by have:=wL_ _ _ hw180_0;first | rwa [add_block] at this | exact this) GW182.out)) | (dsimp only;exact nN_ (nL_ (by have:=wL_ _ _ hw180_0;first | rwa [add_block] at this | exact this) GW182.out))) _).trans (((cell_far (p:=⟨gb182,_,none⟩) (by first | exact nN_ (nL_ (by have:=wL_ _ _ hw180_0;first | rwa [add_block] at this | exact this) GW182.out) | (rw [add_block];exact nN_ (nL_ (by have:=wL_ _ _ hw180_0;first | rwa [add_block] at this | exact this) GW182.out)) | (show (Addr.add _ _).block ≠ _;rw [add_block];exact nN_ (nL_ (by have:=wL_ _ _ hw180_0;first | rwa [add_block] at this | exact this) GW182.out)) | (dsimp only;exact nN_ (nL_ (by have:=wL_ _ _ hw180_0;first | rwa [add_block] at this | exact this) GW182.out))) _).trans (hHeld.2.2.2.2.2.2.2.2.1)))))),((cell_far (p:=⟨gb182,_,none⟩) (by first | exact nN_ (nL_ (by have:=wL_ _ _ hw180_1;first | rwa [add_block] at this | exact this) GW182.out) | (rw [add_block];exact nN_ (nL_ (by have:=wL_ _ _ hw180_1;first | rwa [add_block] at this | exact this) GW182.out)) | (show (Addr.add _ _).block ≠ _;rw [add_block];exact nN_ (nL_ (by have:=wL_ _ _ hw180_1;first | rwa [add_block] at this | exact this) GW182.out)) | (dsimp only;exact nN_ (nL_ (by have:=wL_ _ _ hw180_1;first | rwa [add_block] at this | exact this) GW182.out))) _).trans (((cell_far (p:=⟨gb182,_,none⟩) (by first | exact nN_ (nL_ (by have:=wL_ _ _ hw180_1;first | rwa [add_block] at this | exact this) GW182.out) | (rw [add_block];exact nN_ (nL_ (by have:=wL_ _ _ hw180_1;first | rwa [add_block] at this | exact this) GW182.out)) | (show (Addr.add _ _).block ≠ _;rw [add_block];exact nN_ (nL_ (by have:=wL_ _ _ hw180_1;first | rwa [add_block] at this | exact this) GW182.out)) | (dsimp only;exact nN_ (nL_ (by have:=wL_ _ _ hw180_1;first | rwa [add_block] at this | exact this) GW182.out))) _).trans (((cell_far (p:=⟨gb182,_,none⟩) (by first | exact nN_ (nL_ (by have:=wL_ _ _ hw180_1;first | rwa [add_block] at this | exact this) GW182.out) | (rw [add_block];exact nN_ (nL_ (by have:=wL_ _ _ hw180_1;first | rwa [add_block] at this | exact this) GW182.out)) | (show (Addr.add _ _).block ≠ _;rw [add_block];exact nN_ (nL_ (by have:=wL_ _ _ hw180_1;first | rwa [add_block] at this | exact this) GW182.out)) | (dsimp only;exact nN_ (nL_ (by have:=wL_ _ _ hw180_1;first | rwa [add_block] at this | exact this) GW182.out))) _).trans (hHeld.2.2.2.2.2.2.2.2.2.1)))))),((cell_far (p:=⟨gb182,_,none⟩) (by first | exact nN_ (nL_ (by have:=wL_ _ _ hw180_2;first | rwa [add_block] at this | exact this) GW182.out) | (rw [add_block];exact nN_ (nL_ (by have:=wL_ _ _ hw180_2;first | rwa [add_block] at this | exact this) GW182.out)) | (show (Addr.add _ _).block ≠ _;rw [add_block];exact nN_ (nL_ (by have:=wL_ _ _ hw180_2;first | rwa [add_block] at this | exact this) GW182.out)) | (dsimp only;exact nN_ (nL_ (by have:=wL_ _ _ hw180_2;first | rwa [add_block] at this | exact this) GW182.out))) _).trans (((cell_far (p:=⟨gb182,_,none⟩) (by first | exact nN_ (nL_ (by have:=wL_ _ _ hw180_2;first | rwa [add_block] at this | exact this) GW182.out) | (rw [add_block];exact nN_ (nL_ (by have:=wL_ _ _ hw180_2;first | rwa [add_block] at this | exact this) GW182.out)) | (show (Addr.add _ _).block ≠ _;rw [add_block];exact nN_ (nL_ (by have:=wL_ _ _ hw180_2;first | rwa [add_block] at this | exact this) GW182.out)) | (dsimp only;exact nN_ (nL_ (by have:=wL_ _ _ hw180_2;first | rwa [add_block] at this | exact this) GW182.out))) _).trans (((cell_far (p:=⟨gb182,_,none⟩) (by first | exact nN_ (nL_ (by have:=wL_ _ _ hw180_2;first | rwa [add_block] at this | exact this) GW182.out) | (rw [add_block];exact nN_ (nL_ (by have:=wL_ _ _ hw180_2;first | rwa [add_block] at this | exact this) GW182.out)) | (show (Addr.add _ _).block ≠ _;rw [add_block];exact nN_ (nL_ (by have:=wL_ _ _ hw180_2;first | rwa [add_block] at this | exact this) GW182.out)) | (dsimp only;exact nN_ (nL_ (by have:=wL_ _ _ hw180_2;first | rwa [add_block] at this | exact this) GW182.out))) _).trans (hHeld.2.2.2.2.2.2.2.2.2.2.1)))))),((cell_far (p:=⟨gb182,_,none⟩) (by first | exact nN_ (nL_ (by have:=wL_ _ _ hw181_0;first | rwa [add_block] at this | exact this) GW182.out) | (rw [add_block];exact nN_ (nL_ (by have:=wL_ _ _ hw181_0;first | rwa [add_block] at this | exact this) GW182.out)) | (show (Addr.add _ _).block ≠ _;rw [add_block];exact nN_ (nL_ (by have:=wL_ _ _ hw181_0;first | rwa [add_block] at this | exact this) GW182.out)) | (dsimp only;exact nN_ (nL_ (by have:=wL_ _ _ hw181_0;first | rwa [add_block] at this | exact this) GW182.out))) _).trans (((cell_far (p:=⟨gb182,_,none⟩) (by first | exact nN_ (nL_ (by have:=wL_ _ _ hw181_0;first | rwa [add_block] at this | exact this) GW182.out) | (rw [add_block];exact nN_ (nL_ (by have:=wL_ _ _ hw181_0;first | rwa [add_block] at this | exact this) GW182.out)) | (show (Addr.add _ _).block ≠ _;rw [add_block];exact nN_ (nL_ (by have:=wL_ _ _ hw181_0;first | rwa [add_block] at this | exact this) GW182.out)) | (dsimp only;exact nN_ (nL_ (by have:=wL_ _ _ hw181_0;first | rwa [add_block] at this | exact this) GW182.out))) _).trans (((cell_far (p:=⟨gb182,_,none⟩) (by first | exact nN_ (nL_ (by have:=wL_ _ _ hw181_0;first | rwa [add_block] at this | exact this) GW182.out) | (rw [add_block];exact nN_ (nL_ (by have:=wL_ _ _ hw181_0;first | rwa [add_block] at this | exact this) GW182.out)) | (show (Addr.add _ _).block ≠ _;rw [add_block];exact nN_ (nL_ (by have:=wL_ _ _ hw181_0;first | rwa [add_block] at this | exact this) GW182.out)) | (dsimp only;exact nN_ (nL_ (by have:=wL_ _ _ hw181_0;first | rwa [add_block] at this | exact this) GW182.out))) _).trans (hHeld.2.2.2.2.2.2.2.2.2.2.2.1)))))),((cell_far (p:=⟨gb182,_,none⟩) (by first | exact nN_ (nL_ (by have:=wL_ _ _ hw181_1;first | rwa [add_block] at this | exact this) GW182.out) | (rw [add_block];exact nN_ (nL_ (by have:=wL_ _ _ hw181_1;first | rwa [add_block] at this | exact this) GW182.out)) | (show (Addr.add _ _).block ≠ _;rw [add_block];exact nN_ (nL_ (by have:=wL_ _ _ hw181_1;first | rwa [add_block] at this | exact this) GW182.out)) | (dsimp only;exact nN_ (nL_ (by have:=wL_ _ _ hw181_1;first | rwa [add_block] at this | exact this) GW182.out))) _).trans (((cell_far (p:=⟨gb182,_,none⟩) (by first | exact nN_ (nL_ (by have:=wL_ _ _ hw181_1;first | rwa [add_block] at this | exact this) GW182.out) | (rw [add_block];exact nN_ (nL_ (by have:=wL_ _ _ hw181_1;first | rwa [add_block] at this | exact this) GW182.out)) | (show (Addr.add _ _).block ≠ _;rw [add_block];exact nN_ (nL_ (by have:=wL_ _ _ hw181_1;first | rwa [add_block] at this | exact this) GW182.out)) | (dsimp only;exact nN_ (nL_ (by have:=wL_ _ _ hw181_1;first | rwa [add_block] at this | exact this) GW182.out))) _).trans (((cell_far (p:=⟨gb182,_,none⟩) (by first | exact nN_ (nL_ (by have:=wL_ _ _ hw181_1;first | rwa [add_block] at this | exact this) GW182.out) | (rw [add_block];exact nN_ (nL_ (by have:=wL_ _ _ hw181_1;first | rwa [add_block] at this | exact this) GW182.out)) | (show (Addr.add _ _).block ≠ _;rw [add_block];exact nN_ (nL_ (by have:=wL_ _ _ hw181_1;first | rwa [add_block] at this | exact this) GW182.out)) | (dsimp only;exact nN_ (nL_ (by have:=wL_ _ _ hw181_1;first | rwa [add_block] at this | exact this) GW182.out))) _).trans (hHeld.2.2.2.2.2.2.2.2.2.2.2.2.1)))))),((cell_far (p:=⟨gb182,_,none⟩) (by first | exact nN_ (nL_ (by have:=wL_ _ _ hw181_2;first | rwa [add_block] at this | exact this) GW182.out) | (rw [add_block];exact nN_ (nL_ (by have:=wL_ _ _ hw181_2;first | rwa [add_block] at this | exact this) GW182.out)) | (show (Addr.add _ _).block ≠ _;rw [add_block];exact nN_ (nL_ (by have:=wL_ _ _ hw181_2;first | rwa [add_block] at this | exact this) GW182.out)) | (dsimp only;exact nN_ (nL_ (by have:=wL_ _ _ hw181_2;first | rwa [add_block] at this | exact this) GW182.out))) _).trans (((cell_far (p:=⟨gb182,_,none⟩) (by first | exact nN_ (nL_ (by have:=wL_ _ _ hw181_2;first | rwa [add_block] at this | exact this) GW182.out) | (rw [add_block];exact nN_ (nL_ (by have:=wL_ _ _ hw181_2;first | rwa [add_block] at this | exact this) GW182.out)) | (show (Addr.add _ _).block ≠ _;rw [add_block];exact nN_ (nL_ (by have:=wL_ _ _ hw181_2;first | rwa [add_block] at this | exact this) GW182.out)) | (dsimp only;exact nN_ (nL_ (by have:=wL_ _ _ hw181_2;first | rwa [add_block] at this | exact this) GW182.out))) _).trans (((cell_far (p:=⟨gb182,_,none⟩) (by first | exact nN_ (nL_ (by have:=wL_ _ _ hw181_2;first | rwa [add_block] at this | exact this) GW182.out) | (rw [add_block];exact nN_ (nL_ (by have:=wL_ _ _ hw181_2;first | rwa [add_block] at this | exact this) GW182.out)) | (show (Addr.add _ _).block ≠ _;rw [add_block];exact nN_ (nL_ (by have:=wL_ _ _ hw181_2;first | rwa [add_block] at this | exact this) GW182.out)) | (dsimp only;exact nN_ (nL_ (by have:=wL_ _ _ hw181_2;first | rwa [add_block] at this | exact this) GW182.out))) _).trans (hHeld.2.2.2.2.2.2.2.2.2.2.2.2.2))))))⟩ (fun hHeld=>?_)
               clear hK K
               refine one_ (i:=13) (N:=none) (tb_ 14 0) rfl rfl (one_of HT_.out (by kernel_rfl)) (by decide) (fun K hK=>?_)
               have hs47 : w43.cell? ⟨gb183,0,none⟩ = some (.string (⟨#[]⟩ : ByteArray)):=(kC_ BK183.out 0).trans rfl
               have hfs47:=kF_ BK183.out 0
               have hns47_0:=NB175_183.out
               have hns47_1:=NB176_183.out
               have hns47_2:=NB182_183.out
               have hms47_0:=NB183_175.out
               have hms47_1:=NB183_176.out
               have hms47_2:=NB183_182.out
               have hs48 : w43.cell? ⟨gb183,1,none⟩ = some (.bool false):=(kC_ BK183.out 1).trans rfl
               have hfs48:=kF_ BK183.out 1
               have hns48_0:=NB175_183.out
               have hns48_1:=NB176_183.out
               have hns48_2:=NB182_183.out
               have hms48_0:=NB183_175.out
               have hms48_1:=NB183_176.out
               have hms48_2:=NB183_182.out
               have hs49 : w43.cell? ⟨gb183,2,none⟩ = some (.slice none 0 0):=(kC_ BK183.out 2).trans rfl
               have hfs49:=kF_ BK183.out 2
               have hns49_0:=NB175_183.out
               have hns49_1:=NB176_183.out
               have hns49_2:=NB182_183.out
               have hms49_0:=NB183_175.out
               have hms49_1:=NB183_176.out
               have hms49_2:=NB183_182.out
               refine skip_ (w1:=?_) (by rfl) rfl ?_ ?_
               rotate_left
               ·go_simp
                rfl
               refine hK.out _ _ ⟨((cell_far (p:=⟨gb183,_,none⟩) NB175_183.out _).trans (((cell_far (p:=⟨gb183,_,none⟩) NB175_183.out _).trans (((cell_far (p:=⟨gb183,_,none⟩) NB175_183.out _).trans (hHeld.1)))))),((cell_far (p:=⟨gb183,_,none⟩) NB175_183.out _).trans (((cell_far (p:=⟨gb183,_,none⟩) NB175_183.out _).trans (((cell_far (p:=⟨gb183,_,none⟩) NB175_183.out _).trans (hHeld.2.1)))))),((cell_far (p:=⟨gb183,_,none⟩) NB175_183.out _).trans (((cell_far (p:=⟨gb183,_,none⟩) NB175_183.out _).trans (((cell_far (p:=⟨gb183,_,none⟩) NB175_183.out _).trans (hHeld.2.2.1)))))),((cell_far (p:=⟨gb183,_,none⟩) NB175_183.out _).trans (((cell_far (p:=⟨gb183,_,none⟩) NB175_183.out _).trans (((cell_far (p:=⟨gb183,_,none⟩) NB175_183.out _).trans (hHeld.2.2.2.1)))))),((cell_far (p:=⟨gb183,_,none⟩) NB176_183.out _).trans (((cell_far (p:=⟨gb183,_,none⟩) NB176_183.out _).trans (((cell_far (p:=⟨gb183,_,none⟩) NB176_183.out _).trans (hHeld.2.2.2.2.1)))))),((cell_far (p:=⟨gb183,_,none⟩) NB176_183.out _).trans (((cell_far (p:=⟨gb183,_,none⟩) NB176_183.out _).trans (((cell_far (p:=⟨gb183,_,none⟩) NB176_183.out _).trans (hHeld.2.2.2.2.2.1)))))),((cell_far (p:=⟨gb183,_,none⟩) NB176_183.out _).trans (((cell_far (p:=⟨gb183,_,none⟩) NB176_183.out _).trans (((cell_far (p:=⟨gb183,_,none⟩) NB176_183.out _).trans (hHeld.2.2.2.2.2.2.1)))))),((cell_far (p:=⟨gb183,_,none⟩) NB176_183.out _).trans (((cell_far (p:=⟨gb183,_,none⟩) NB176_183.out _).trans (((cell_far (p:=⟨gb183,_,none⟩) NB176_183.out _).trans (hHeld.2.2.2.2.2.2.2.1)))))),((cell_far (p:=⟨gb183,_,none⟩) (by first | exact nN_ (nL_ (by have:=wL_ _ _ hw180_0;first | rwa [add_block] at this | exact this) GW183.out) | (rw [add_block];exact nN_ (nL_ (by have:=wL_ _ _ hw180_0;first | rwa [add_block] at this | exact this) GW183.out)) | (show (Addr.add _ _).block ≠ _;rw [add_block];exact nN_ (nL_ (by have:=wL_ _ _ hw180_0;first | rwa [add_block] at this | exact this) GW183.out)) | (dsimp only;exact nN_ (nL_ (by have:=wL_ _ _ hw180_0;first | rwa [add_block] at this | exact this) GW183.out))) _).trans (((cell_far (p:=⟨gb183,_,none⟩) (by first | exact nN_ (nL_ (by have:=wL_ _ _ hw180_0;first | rwa [add_block] at this | exact this) GW183.out) | (rw [add_block];exact nN_ (nL_ (by have:=wL_ _ _ hw180_0;first | rwa [add_block] at this | exact this) GW183.out)) | (show (Addr.add _ _).block ≠ _;rw [add_block];exact nN_ (nL_ (by have:=wL_ _ _ hw180_0;first | rwa [add_block] at this | exact this) GW183.out)) | (dsimp only;exact nN_ (nL_ (by have:=wL_ _ _ hw180_0;first | rwa [add_block] at this | exact this) GW183.out))) _).trans (((cell_far (p:=⟨gb183,_,none⟩) (by first | exact nN_ (nL_ (by have:=wL_ _ _ hw180_0;first | rwa [add_block] at this | exact this) GW183.out) | (rw [add_block];exact nN_ (nL_ (by have:=wL_ _ _ hw180_0;first | rwa [add_block] at this | exact this) GW183.out)) | (show (Addr.add _ _).block ≠ _;rw [add_block];exact nN_ (nL_ (by have:=wL_ _ _ hw180_0;first | rwa [add_block] at this | exact this) GW183.out)) | (dsimp only;exact nN_ (nL_ (by have:=wL_ _ _ hw180_0;first | rwa [add_block] at this | exact this) GW183.out))) _).trans (hHeld.2.2.2.2.2.2.2.2.1)))))),((cell_far (p:=⟨gb183,_,none⟩) (by first | exact nN_ (nL_ (by have:=wL_ _ _ hw180_1;first | rwa [add_block] at this | exact this) GW183.out) | (rw [add_block];exact nN_ (nL_ (by have:=wL_ _ _ hw180_1;first | rwa [add_block] at this | exact this) GW183.out)) | (show (Addr.add _ _).block ≠ _;rw [add_block];exact nN_ (nL_ (by have:=wL_ _ _ hw180_1;first | rwa [add_block] at this | exact this) GW183.out)) | (dsimp only;exact nN_ (nL_ (by have:=wL_ _ _ hw180_1;first | rwa [add_block] at this | exact this) GW183.out))) _).trans (((cell_far (p:=⟨gb183,_,none⟩) (by first | exact nN_ (nL_ (by have:=wL_ _ _ hw180_1;first | rwa [add_block] at this | exact this) GW183.out) | (rw [add_block];exact nN_ (nL_ (by have:=wL_ _ _ hw180_1;first | rwa [add_block] at this | exact this) GW183.out)) | (show (Addr.add _ _).block ≠ _;rw [add_block];exact nN_ (nL_ (by have:=wL_ _ _ hw180_1;first | rwa [add_block] at this | exact this) GW183.out)) | (dsimp only;exact nN_ (nL_ (by have:=wL_ _ _ hw180_1;first | rwa [add_block] at this | exact this) GW183.out))) _).trans (((cell_far (p:=⟨gb183,_,none⟩) (by first | exact nN_ (nL_ (by have:=wL_ _ _ hw180_1;first | rwa [add_block] at this | exact this) GW183.out) | (rw [add_block];exact nN_ (nL_ (by have:=wL_ _ _ hw180_1;first | rwa [add_block] at this | exact this) GW183.out)) | (show (Addr.add _ _).block ≠ _;rw [add_block];exact nN_ (nL_ (by have:=wL_ _ _ hw180_1;first | rwa [add_block] at this | exact this) GW183.out)) | (dsimp only;exact nN_ (nL_ (by have:=wL_ _ _ hw180_1;first | rwa [add_block] at this | exact this) GW183.out))) _).trans (hHeld.2.2.2.2.2.2.2.2.2.1)))))),((cell_far (p:=⟨gb183,_,none⟩) (by first | exact nN_ (nL_ (by have:=wL_ _ _ hw180_2;first | rwa [add_block] at this | exact this) GW183.out) | (rw [add_block];exact nN_ (nL_ (by have:=wL_ _ _ hw180_2;first | rwa [add_block] at this | exact this) GW183.out)) | (show (Addr.add _ _).block ≠ _;rw [add_block];exact nN_ (nL_ (by have:=wL_ _ _ hw180_2;first | rwa [add_block] at this | exact this) GW183.out)) | (dsimp only;exact nN_ (nL_ (by have:=wL_ _ _ hw180_2;first | rwa [add_block] at this | exact this) GW183.out))) _).trans (((cell_far (p:=⟨gb183,_,none⟩) (by first | exact nN_ (nL_ (by have:=wL_ _ _ hw180_2;first | rwa [add_block] at this | exact this) GW183.out) | (rw [add_block];exact nN_ (nL_ (by have:=wL_ _ _ hw180_2;first | rwa [add_block] at this | exact this) GW183.out)) | (show (Addr.add _ _).block ≠ _;rw [add_block];exact nN_ (nL_ (by have:=wL_ _ _ hw180_2;first | rwa [add_block] at this | exact this) GW183.out)) | (dsimp only;exact nN_ (nL_ (by have:=wL_ _ _ hw180_2;first | rwa [add_block] at this | exact this) GW183.out))) _).trans (((cell_far (p:=⟨gb183,_,none⟩) (by first | exact nN_ (nL_ (by have:=wL_ _ _ hw180_2;first | rwa [add_block] at this | exact this) GW183.out) | (rw [add_block];exact nN_ (nL_ (by have:=wL_ _ _ hw180_2;first | rwa [add_block] at this | exact this) GW183.out)) | (show (Addr.add _ _).block ≠ _;rw [add_block];exact nN_ (nL_ (by have:=wL_ _ _ hw180_2;first | rwa [add_block] at this | exact this) GW183.out)) | (dsimp only;exact nN_ (nL_ (by have:=wL_ _ _ hw180_2;first | rwa [add_block] at this | exact this) GW183.out))) _).trans (hHeld.2.2.2.2.2.2.2.2.2.2.1)))))),((cell_far (p:=⟨gb183,_,none⟩) (by first | exact nN_ (nL_ (by have:=wL_ _ _ hw181_0;first | rwa [add_block] at this | exact this) GW183.out) | (rw [add_block];exact nN_ (nL_ (by have:=wL_ _ _ hw181_0;first | rwa [add_block] at this | exact this) GW183.out)) | (show (Addr.add _ _).block ≠ _;rw [add_block];exact nN_ (nL_ (by have:=wL_ _ _ hw181_0;first | rwa [add_block] at this | exact this) GW183.out)) | (dsimp only;exact nN_ (nL_ (by have:=wL_ _ _ hw181_0;first | rwa [add_block] at this | exact this) GW183.out))) _).trans (((cell_far (p:=⟨gb183,_,none⟩) (by first | exact nN_ (nL_ (by have:=wL_ _ _ hw181_0;first | rwa [add_block] at this | exact this) GW183.out) | (rw [add_block];exact nN_ (nL_ (by have:=wL_ _ _ hw181_0;first | rwa [add_block] at this | exact this) GW183.out)) | (show (Addr.add _ _).block ≠ _;rw [add_block];exact nN_ (nL_ (by have:=wL_ _ _ hw181_0;first | rwa [add_block] at this | exact this) GW183.out)) | (dsimp only;exact nN_ (nL_ (by have:=wL_ _ _ hw181_0;first | rwa [add_block] at this | exact this) GW183.out))) _).trans (((cell_far (p:=⟨gb183,_,none⟩) (by first | exact nN_ (nL_ (by have:=wL_ _ _ hw181_0;first | rwa [add_block] at this | exact this) GW183.out) | (rw [add_block];exact nN_ (nL_ (by have:=wL_ _ _ hw181_0;first | rwa [add_block] at this | exact this) GW183.out)) | (show (Addr.add _ _).block ≠ _;rw [add_block];exact nN_ (nL_ (by have:=wL_ _ _ hw181_0;first | rwa [add_block] at this | exact this) GW183.out)) | (dsimp only;exact nN_ (nL_ (by have:=wL_ _ _ hw181_0;first | rwa [add_block] at this | exact this) GW183.out))) _).trans (hHeld.2.2.2.2.2.2.2.2.2.2.2.1)))))),((cell_far (p:=⟨gb183,_,none⟩) (by first | exact nN_ (nL_ (by have:=wL_ _ _ hw181_1;first | rwa [add_block] at this | exact this) GW183.out) | (rw [add_block];exact nN_ (nL_ (by have:=wL_ _ _ hw181_1;first | rwa [add_block] at this | exact this) GW183.out)) | (show (Addr.add _ _).block ≠ _;rw [add_block];exact nN_ (nL_ (by have:=wL_ _ _ hw181_1;first | rwa [add_block] at this | exact this) GW183.out)) | (dsimp only;exact nN_ (nL_ (by have:=wL_ _ _ hw181_1;first | rwa [add_block] at this | exact this) GW183.out))) _).trans (((cell_far (p:=⟨gb183,_,none⟩) (by first | exact nN_ (nL_ (by have:=wL_ _ _ hw181_1;first | rwa [add_block] at this | exact this) GW183.out) | (rw [add_block];exact nN_ (nL_ (by have:=wL_ _ _ hw181_1;first | rwa [add_block] at this | exact this) GW183.out)) | (show (Addr.add _ _).block ≠ _;rw [add_block];exact nN_ (nL_ (by have:=wL_ _ _ hw181_1;first | rwa [add_block] at this | exact this) GW183.out)) | (dsimp only;exact nN_ (nL_ (by have:=wL_ _ _ hw181_1;first | rwa [add_block] at this | exact this) GW183.out))) _).trans (((cell_far (p:=⟨gb183,_,none⟩) (by first | exact nN_ (nL_ (by have:=wL_ _ _ hw181_1;first | rwa [add_block] at this | exact this) GW183.out) | (rw [add_block];exact nN_ (nL_ (by have:=wL_ _ _ hw181_1;first | rwa [add_block] at this | exact this) GW183.out)) | (show (Addr.add _ _).block ≠ _;rw [add_block];exact nN_ (nL_ (by have:=wL_ _ _ hw181_1;first | rwa [add_block] at this | exact this) GW183.out)) | (dsimp only;exact nN_ (nL_ (by have:=wL_ _ _ hw181_1;first | rwa [add_block] at this | exact this) GW183.out))) _).trans (hHeld.2.2.2.2.2.2.2.2.2.2.2.2.1)))))),((cell_far (p:=⟨gb183,_,none⟩) (by first | exact nN_ (nL_ (by have:=wL_ _ _ hw181_2;first | rwa [add_block] at this | exact this) GW183.out) | (rw [add_block];exact nN_ (nL_ (by have:=wL_ _ _ hw181_2;first | rwa [add_block] at this | exact this) GW183.out)) | (show (Addr.add _ _).block ≠ _;rw [add_block];exact nN_ (nL_ (by have:=wL_ _ _ hw181_2;first | rwa [add_block] at this | exact this) GW183.out)) | (dsimp only;exact nN_ (nL_ (by have:=wL_ _ _ hw181_2;first | rwa [add_block] at this | exact this) GW183.out))) _).trans (((cell_far (p:=⟨gb183,_,none⟩) (by first | exact nN_ (nL_ (by have:=wL_ _ _ hw181_2;first | rwa [add_block] at this | exact this) GW183.out) | (rw [add_block];exact nN_ (nL_ (by have:=wL_ _ _ hw181_2;first | rwa [add_block] at this | exact this) GW183.out)) | (show (Addr.add _ _).block ≠ _;rw [add_block];exact nN_ (nL_ (by have:=wL_ _ _ hw181_2;first | rwa [add_block] at this | exact this) GW183.out)) | (dsimp only;exact nN_ (nL_ (by have:=wL_ _ _ hw181_2;first | rwa [add_block] at this | exact this) GW183.out))) _).trans (((cell_far (p:=⟨gb183,_,none⟩) (by first | exact nN_ (nL_ (by have:=wL_ _ _ hw181_2;first | rwa [add_block] at this | exact this) GW183.out) | (rw [add_block];exact nN_ (nL_ (by have:=wL_ _ _ hw181_2;first | rwa [add_block] at this | exact this) GW183.out)) | (show (Addr.add _ _).block ≠ _;rw [add_block];exact nN_ (nL_ (by have:=wL_ _ _ hw181_2;first | rwa [add_block] at this | exact this) GW183.out)) | (dsimp only;exact nN_ (nL_ (by have:=wL_ _ _ hw181_2;first | rwa [add_block] at this | exact this) GW183.out))) _).trans (hHeld.2.2.2.2.2.2.2.2.2.2.2.2.2))))))⟩ (fun hHeld=>?_)
               clear hK K
               refine done_ (done_of HT_.out (by kernel_rfl)) ?_
               have hnb50:=NB182_175.out
               have hnc50:=NB175_182.out
               have hnb51:=NB182_176.out
               have hnc51:=NB176_182.out
               have hnb52:=NB182_183.out
               have hnc52:=NB183_182.out
               have hcz53_0 : w43.cell? ⟨gb182,0,none⟩ = some (.string (⟨#[]⟩ : ByteArray)):=(kC_ BK182.out 0).trans rfl
               have hcz53_1 : w43.cell? ⟨gb182,1,none⟩ = some (.bool false):=(kC_ BK182.out 1).trans rfl
               have hcz53_2 : w43.cell? ⟨gb182,2,none⟩ = some (.slice none 0 0):=(kC_ BK182.out 2).trans rfl
               have hfz53_0:=kF_ BK182.out 0
               have hfz53_1:=kF_ BK182.out 1
               have hfz53_2:=kF_ BK182.out 2
               have hnb54:=NB183_175.out
               have hnc54:=NB175_183.out
               have hnb55:=NB183_176.out
               have hnc55:=NB176_183.out
               have hcz56_0 : w43.cell? ⟨gb183,0,none⟩ = some (.string (⟨#[]⟩ : ByteArray)):=(kC_ BK183.out 0).trans rfl
               have hcz56_1 : w43.cell? ⟨gb183,1,none⟩ = some (.bool false):=(kC_ BK183.out 1).trans rfl
               have hcz56_2 : w43.cell? ⟨gb183,2,none⟩ = some (.slice none 0 0):=(kC_ BK183.out 2).trans rfl
               have hfz56_0:=kF_ BK183.out 0
               have hfz56_1:=kF_ BK183.out 1
               have hfz56_2:=kF_ BK183.out 2
               try go_wp2
               go_ret
               exact ⟨by first | rfl | (simp [errW_none,errW_some] <;> rfl) | (simp [*, errW_none,errW_some] <;> rfl),by exact bZ_ HB⟩
              ·rw [if_neg c39] at H
               have c39b0 : (((rd_T148 l0_3 x61_3).f1) != ((rd_T148 l1_3 x61_3).f1)) = false:=by simpa using c39
               (try (have c39b1 : decide (((rd_T148 l0_3 x61_3).f1) = ((rd_T148 l1_3 x61_3).f1)) = true:=by simpa using c39))
               (try (have c39b2 : (((rd_T148 l0_3 x61_3).f1) == ((rd_T148 l1_3 x61_3).f1)) = true:=by simpa using c39))
               clear c39
               replace H:=oB_ H
               obtain ⟨t184,A570,H⟩:=H
               replace H : (if t184 = true then (impl_SameDef.l1 k3 (l0_3.length : Int) (wrap64 (x61_3 + 1)) a0_0 l0_1 l0_2 l0_3 a1_0 l1_1 l1_2 l1_3) else (some false)) = some r:=H
               have A57:=aM_ A570
               clear A570
               by_cases c58 : t184 = true
               ·subst c58
                have H1 : (impl_SameDef.l1 k3 (l0_3.length : Int) (wrap64 (x61_3 + 1)) a0_0 l0_1 l0_2 l0_3 a1_0 l1_1 l1_2 l1_3) = some r:=by rw [if_pos rfl] at H;exact H
                clear H
                have H:=H1
                clear H1
                have H':=aM_ H
                clear H
                try go_wp2
                have n0_:=aM_ (kD_ BK175.out)
                have n1_:=aM_ (kD_ BK176.out)
                have n2_:=aM_ (bD_ HB.out)
                clear BK175 BK176 HB
                have BK175:=n0_
                have BK176:=n1_
                have HB:=n2_
                clear n0_ n1_ n2_
                have p180 : 0 ≤ (x61_3 : Int):=oT_ (by first | (with_reducible assumption) | assumption)
                have q180 : x61_3 < (l0_3.length : Int):=oT_ (by first | (with_reducible assumption) | assumption)
                obtain ⟨ad180,A180_2,c180_2,e180,hx180_0,hx180_1,hx180_2,hl180_2,hi180_2⟩:=at_T148 HR0_3.out x61_3 p180 q180
                have hw180_2:=hx180_2
                have hw180_1:=hx180_1
                have hw180_0:=hx180_0
                cases e180
                replace hx180_0:=(HB.out.cell (wL_ w _ hx180_0)).trans hx180_0
                replace hx180_1:=(HB.out.cell (wL_ w _ hx180_1)).trans hx180_1
                replace hx180_2:=(HB.out.cell (wL_ w _ hx180_2)).trans hx180_2
                have HR180_2:=aM_ hi180_2
                have HC180_2:=aM_ hl180_2
                clear hi180_2 hl180_2
                replace p180:=eq_true p180
                replace q180:=eq_true q180
                have p181 : 0 ≤ (x61_3 : Int):=oT_ (by first | (with_reducible assumption) | assumption)
                have q181 : x61_3 < (l1_3.length : Int):=oT_ (by first | (with_reducible assumption) | assumption)
                obtain ⟨ad181,A181_2,c181_2,e181,hx181_0,hx181_1,hx181_2,hl181_2,hi181_2⟩:=at_T148 HR1_3.out x61_3 p181 q181
                have hw181_2:=hx181_2
                have hw181_1:=hx181_1
                have hw181_0:=hx181_0
                cases e181
                replace hx181_0:=(HB.out.cell (wL_ w _ hx181_0)).trans hx181_0
                replace hx181_1:=(HB.out.cell (wL_ w _ hx181_1)).trans hx181_1
                replace hx181_2:=(HB.out.cell (wL_ w _ hx181_2)).trans hx181_2
                have HR181_2:=aM_ hi181_2
                have HC181_2:=aM_ hl181_2
                clear hi181_2 hl181_2
                replace p181:=eq_true p181
                replace q181:=eq_true q181
                refine start_ (n:=14) (S:=fun w'=>w'.cell? ⟨gb175,0,none⟩ = some (.string a0_0) ∧ w'.cell? ⟨gb175,1,none⟩ = some (.slice A0_1 l0_1.length c0_1) ∧ w'.cell? ⟨gb175,2,none⟩ = some (.slice A0_2 l0_2.length c0_2) ∧ w'.cell? ⟨gb175,3,none⟩ = some (.slice (some ad180) l0_3.length c0_3) ∧ w'.cell? ⟨gb176,0,none⟩ = some (.string a1_0) ∧ w'.cell? ⟨gb176,1,none⟩ = some (.slice A1_1 l1_1.length c1_1) ∧ w'.cell? ⟨gb176,2,none⟩ = some (.slice A1_2 l1_2.length c1_2) ∧ w'.cell? ⟨gb176,3,none⟩ = some (.slice (some ad181) l1_3.length c1_3) ∧ w'.cell? (ad180.add ((x61_3).toNat * 3)) = some (.string ((rd_T148 l0_3 x61_3).f0)) ∧ w'.cell? ⟨(ad180.add ((x61_3).toNat * 3)).block,(ad180.add ((x61_3).toNat * 3)).off + 1,none⟩ = some (.bool ((rd_T148 l0_3 x61_3).f1)) ∧ w'.cell? ⟨(ad180.add ((x61_3).toNat * 3)).block,(ad180.add ((x61_3).toNat * 3)).off + 2,none⟩ = some (.slice A180_2 ((rd_T148 l0_3 x61_3).f2).length c180_2) ∧ w'.cell? (ad181.add ((x61_3).toNat * 3)) = some (.string ((rd_T148 l1_3 x61_3).f0)) ∧ w'.cell? ⟨(ad181.add ((x61_3).toNat * 3)).block,(ad181.add ((x61_3).toNat * 3)).off + 1,none⟩ = some (.bool ((rd_T148 l1_3 x61_3).f1)) ∧ w'.cell? ⟨(ad181.add ((x61_3).toNat * 3)).block,(ad181.add ((x61_3).toNat * 3)).off + 2,none⟩ = some (.slice A181_2 ((rd_T148 l1_3 x61_3).f2).length c181_2)) (ds:=[]) (tb_ 0 14) (by kernel_rfl) rfl rfl ⟨(kC_ BK175.out 0).trans rfl,(kC_ BK175.out 1).trans rfl,(kC_ BK175.out 2).trans rfl,(kC_ BK175.out 3).trans rfl,(kC_ BK176.out 0).trans rfl,(kC_ BK176.out 1).trans rfl,(kC_ BK176.out 2).trans rfl,(kC_ BK176.out 3).trans rfl,((HB.out.cell (wL_ w _ hw180_0)).trans hw180_0),((HB.out.cell (wL_ w _ hw180_1)).trans hw180_1),((HB.out.cell (wL_ w _ hw180_2)).trans hw180_2),((HB.out.cell (wL_ w _ hw181_0)).trans hw181_0),((HB.out.cell (wL_ w _ hw181_1)).trans hw181_1),((HB.out.cell (wL_ w _ hw181_2)).trans hw181_2)⟩ (fun hHeld=>?_);refine with_tabW impl_SameDef.tab12 impl_SameDef.bits12 (fun HT_ HW_=>?_)
                generalize wr.drew = w59 at BK175 BK176 HB HR180_2 HR181_2 hx180_0 hx180_1 hx180_2 hx181_0 hx181_1 hx181_2 hHeld ⊢
                refine pure_ (i:=0) (N:=some 64) (v:=?_) (a':=?_) (tb_ 1 13) rfl rfl (any_of HT_.out (by kernel_rfl)) (fun _ _ _ h=>h) (Or.inl ⟨by rfl,?_⟩) ?_ ?_
                rotate_left
                ·intro w'
                 go_simp
                 with_reducible rfl
                rotate_left
                ·simp only [Act.put,sI_,sZ_,sS_,i64_w,i32_w]
                 rfl
                refine pure_ (i:=2) (N:=some 66) (v:=?_) (a':=?_) #[true,false,true,false,false,false,false,false,false,false,false,false,false,false] rfl rfl (any_of HT_.out (by kernel_rfl)) (fun _ _ _ h=>h) (Or.inl ⟨by rfl,?_⟩) ?_ ?_
                rotate_left
                ·intro w'
                 go_simp
                 with_reducible rfl
                rotate_left
                ·simp only [Act.put,sI_,sZ_,sS_,i64_w,i32_w]
                 rfl
                refine pure_ (i:=5) (N:=some 69) (v:=?_) (a':=?_) #[true,false,true,false,false,true,false,false,false,false,false,false,false,false] rfl rfl (any_of HT_.out (by kernel_rfl)) (fun _ _ _ h=>h) (Or.inl ⟨by rfl,?_⟩) ?_ ?_
                rotate_left
                ·intro w'
                 go_simp
                 with_reducible rfl
                rotate_left
                ·simp only [Act.put,sI_,sZ_,sS_,i64_w,i32_w]
                 rfl
                refine pure_ (i:=7) (N:=some 71) (v:=?_) (a':=?_) #[true,false,true,false,false,true,false,true,false,false,false,false,false,false] rfl rfl (any_of HT_.out (by kernel_rfl)) (fun _ _ _ h=>h) (Or.inl ⟨by rfl,?_⟩) ?_ ?_
                rotate_left
                ·intro w'
                 go_simp
                 with_reducible rfl
                rotate_left
                ·simp only [Act.put,sI_,sZ_,sS_,i64_w,i32_w]
                 rfl
                refine take_ (i:=1) (N:=some 65) (v:=?_) (a':=?_) #[true,true,true,false,false,true,false,true,false,false,false,false,false,false] rfl rfl (take_ofW HT_.out HW_.out (by kernel_rfl)) (fun _ _ _ h=>h) (Or.inl ⟨by rfl,?_⟩) hHeld ?_ ?_
                rotate_left
                ·rintro w' ⟨s0,s1,s2,s3,s4,s5,s6,s7,s8,s9,s10,s11,s12,s13⟩
                 go_simp
                 with_reducible rfl
                rotate_left
                ·simp only [Act.put,sI_,sZ_,sS_,i64_w,i32_w]
                 rfl
                refine pure_ (i:=3) (N:=some 67) (v:=?_) (a':=?_) #[true,true,true,true,false,true,false,true,false,false,false,false,false,false] rfl rfl (any_of HT_.out (by kernel_rfl)) (fun _ _ _ h=>h) (Or.inl ⟨by rfl,?_⟩) ?_ ?_
                rotate_left
                ·intro w'
                 go_simp
                 with_reducible rfl
                rotate_left
                ·simp only [Act.put,sI_,sZ_,sS_,i64_w,i32_w]
                 rfl
                refine take_ (i:=4) (N:=some 68) (v:=?_) (a':=?_) #[true,true,true,true,true,true,false,true,false,false,false,false,false,false] rfl rfl (take_ofW HT_.out HW_.out (by kernel_rfl)) (fun _ _ _ h=>h) (Or.inl ⟨by rfl,?_⟩) hHeld ?_ ?_
                rotate_left
                ·rintro w' ⟨s0,s1,s2,s3,s4,s5,s6,s7,s8,s9,s10,s11,s12,s13⟩
                 go_simp
                 with_reducible rfl
                rotate_left
                ·simp only [Act.put,sI_,sZ_,sS_,i64_w,i32_w]
                 rfl
                refine take_ (i:=6) (N:=some 70) (v:=?_) (a':=?_) (tb_ 8 6) rfl rfl (take_ofW HT_.out HW_.out (by kernel_rfl)) (fun _ _ _ h=>h) (Or.inl ⟨by rfl,?_⟩) hHeld ?_ ?_
                rotate_left
                ·rintro w' ⟨s0,s1,s2,s3,s4,s5,s6,s7,s8,s9,s10,s11,s12,s13⟩
                 go_simp
                 with_reducible rfl
                rotate_left
                ·simp only [Act.put,sI_,sZ_,sS_,i64_w,i32_w]
                 rfl
                refine pure_ (i:=8) (N:=some 72) (v:=?_) (a':=?_) (tb_ 9 5) rfl rfl (any_of HT_.out (by kernel_rfl)) (fun _ _ _ h=>h) (Or.inl ⟨by rfl,?_⟩) ?_ ?_
                rotate_left
                ·intro w'
                 go_simp
                 with_reducible rfl
                rotate_left
                ·simp only [Act.put,sI_,sZ_,sS_,i64_w,i32_w]
                 rfl
                refine take_ (i:=9) (N:=some 73) (v:=?_) (a':=?_) (tb_ 10 4) rfl rfl (take_ofW HT_.out HW_.out (by kernel_rfl)) (fun _ _ _ h=>h) (Or.inl ⟨by rfl,?_⟩) hHeld ?_ ?_
                rotate_left
                ·rintro w' ⟨s0,s1,s2,s3,s4,s5,s6,s7,s8,s9,s10,s11,s12,s13⟩
                 go_simp
                 with_reducible rfl
                rotate_left
                ·simp only [Act.put,sI_,sZ_,sS_,i64_w,i32_w]
                 rfl
                refine join_ (σ:=Nat × Nat) 2 (tb_ 12 2) (fun s_=>[(7,.pointer (some ⟨s_.1,0,none⟩)),(8,.pointer (some ⟨s_.2,0,none⟩))]) (fun s_ w'=>(w'.cell? ⟨gb175,0,none⟩ = some (.string a0_0) ∧ w'.cell? ⟨gb175,1,none⟩ = some (.slice A0_1 l0_1.length c0_1) ∧ w'.cell? ⟨gb175,2,none⟩ = some (.slice A0_2 l0_2.length c0_2) ∧ w'.cell? ⟨gb175,3,none⟩ = some (.slice (some ad180) l0_3.length c0_3) ∧ w'.cell? ⟨gb176,0,none⟩ = some (.string a1_0) ∧ w'.cell? ⟨gb176,1,none⟩ = some (.slice A1_1 l1_1.length c1_1) ∧ w'.cell? ⟨gb176,2,none⟩ = some (.slice A1_2 l1_2.length c1_2) ∧ w'.cell? ⟨gb176,3,none⟩ = some (.slice (some ad181) l1_3.length c1_3) ∧ w'.cell? (ad180.add ((x61_3).toNat * 3)) = some (.string ((rd_T148 l0_3 x61_3).f0)) ∧ w'.cell? ⟨(ad180.add ((x61_3).toNat * 3)).block,(ad180.add ((x61_3).toNat * 3)).off + 1,none⟩ = some (.bool ((rd_T148 l0_3 x61_3).f1)) ∧ w'.cell? ⟨(ad180.add ((x61_3).toNat * 3)).block,(ad180.add ((x61_3).toNat * 3)).off + 2,none⟩ = some (.slice A180_2 ((rd_T148 l0_3 x61_3).f2).length c180_2) ∧ w'.cell? (ad181.add ((x61_3).toNat * 3)) = some (.string ((rd_T148 l1_3 x61_3).f0)) ∧ w'.cell? ⟨(ad181.add ((x61_3).toNat * 3)).block,(ad181.add ((x61_3).toNat * 3)).off + 1,none⟩ = some (.bool ((rd_T148 l1_3 x61_3).f1)) ∧ w'.cell? ⟨(ad181.add ((x61_3).toNat * 3)).block,(ad181.add ((x61_3).toNat * 3)).off + 2,none⟩ = some (.slice A181_2 ((rd_T148 l1_3 x61_3).f2).length c181_2)) ∧ (w'.heap[gb175]? = some (.cells #[.string a0_0,.slice A0_1 l0_1.length c0_1,.slice A0_2 l0_2.length c0_2,.slice (some ad180) l0_3.length c0_3] 87 (0,0))) ∧ (w'.heap[gb176]? = some (.cells #[.string a1_0,.slice A1_1 l1_1.length c1_1,.slice A1_2 l1_2.length c1_2,.slice (some ad181) l1_3.length c1_3] 87 (0,0))) ∧ (w'.heap[s_.1]? = some (.cells #[.string (⟨#[]⟩ : ByteArray),.bool false,.slice none 0 0] 148 (0,0))) ∧ (w'.heap[s_.2]? = some (.cells #[.string (⟨#[]⟩ : ByteArray),.bool false,.slice none 0 0] 148 (0,0))) ∧ (w.heap.size ≤ s_.1) ∧ (w.heap.size ≤ s_.1) ∧ (gb175 ≠ s_.1) ∧ (s_.1 ≠ gb175) ∧ (gb176 ≠ s_.1) ∧ (s_.1 ≠ gb176) ∧ (s_.2 ≠ s_.1) ∧ (s_.1 ≠ s_.2) ∧ (w.heap.size ≤ s_.2) ∧ (w.heap.size ≤ s_.2) ∧ (gb175 ≠ s_.2) ∧ (s_.2 ≠ gb175) ∧ (gb176 ≠ s_.2) ∧ (s_.2 ≠ gb176) ∧ (Below w.heap.size w w')) ?_ ?_
                rotate_left
                ·intro hCont
                 refine two_ (i:=10) (j:=11) (Ni:=some 7) (Nj:=some 8) (tb_ 11 3) #[true,true,true,true,true,true,true,true,true,true,false,true,false,false] rfl rfl rfl rfl (two_of HT_.out (by kernel_rfl)) (by decide) (by decide) (fun K hK=>?_) (fun K hK=>?_)
                 ·skip
                  refine box_step ?hg (N:=7) ?hd (cs:=#[.string (⟨#[]⟩ : ByteArray),.bool false,.slice none 0 0]) (t:=148) ?hr ?_;(case hd=>rfl);(case hg=>rfl);(case hr=>first | (go_simp;done) | (go_simp;rfl))
                  intro gb182 hg w60 hbox hb
                  have n0_:=aM_ (blk_below (g:=gb175) (o:=.cells #[.string a0_0,.slice A0_1 l0_1.length c0_1,.slice A0_2 l0_2.length c0_2,.slice (some ad180) l0_3.length c0_3] 87 (0,0)) (by exact kZ_ BK175) hb)
                  have n1_:=aM_ (blk_below (g:=gb176) (o:=.cells #[.string a1_0,.slice A1_1 l1_1.length c1_1,.slice A1_2 l1_2.length c1_2,.slice (some ad181) l1_3.length c1_3] 87 (0,0)) (by exact kZ_ BK176) hb)
                  have n2_:=aM_ (bT_ (by exact bZ_ HB) hb)
                  have n3_:=aM_ (hbox)
                  have n4_:=aM_ ((by rw [hg];exact (bS_ (by exact bZ_ HB)) : w.heap.size ≤ gb182))
                  have n5_:=aM_ ((by rw [hg];exact (bS_ (by exact bZ_ HB)) : w.heap.size ≤ gb182))
                  have n6_:=aM_ ((by rw [hg];exact nN_ (blk_lt (g:=gb175) (o:=.cells #[.string a0_0,.slice A0_1 l0_1.length c0_1,.slice A0_2 l0_2.length c0_2,.slice (some ad180) l0_3.length c0_3] 87 (0,0)) (by exact kZ_ BK175)) : gb175 ≠ gb182))
                  have n7_:=aM_ ((by rw [hg];exact Nat.ne_of_gt (blk_lt (g:=gb175) (o:=.cells #[.string a0_0,.slice A0_1 l0_1.length c0_1,.slice A0_2 l0_2.length c0_2,.slice (some ad180) l0_3.length c0_3] 87 (0,0)) (by exact kZ_ BK175)) : gb182 ≠ gb175))
                  have n8_:=aM_ ((by rw [hg];exact nN_ (blk_lt (g:=gb176) (o:=.cells #[.string a1_0,.slice A1_1 l1_1.length c1_1,.slice A1_2 l1_2.length c1_2,.slice (some ad181) l1_3.length c1_3] 87 (0,0)) (by exact kZ_ BK176)) : gb176 ≠ gb182))
                  have n9_:=aM_ ((by rw [hg];exact Nat.ne_of_gt (blk_lt (g:=gb176) (o:=.cells #[.string a1_0,.slice A1_1 l1_1.length c1_1,.slice A1_2 l1_2.length c1_2,.slice (some ad181) l1_3.length c1_3] 87 (0,0)) (by exact kZ_ BK176)) : gb182 ≠ gb176))
                  clear BK175 BK176 HB
                  have BK175:=n0_
                  have BK176:=n1_
                  have HB:=n2_
                  have BK182:=n3_
                  have GW182:=n4_
                  have GE182:=n5_
                  have NB175_182:=n6_
                  have NB182_175:=n7_
                  have NB176_182:=n8_
                  have NB182_176:=n9_
                  clear n0_ n1_ n2_ n3_ n4_ n5_ n6_ n7_ n8_ n9_ hb hbox hg
                  refine hK.out _ _ ⟨(kC_ BK175.out 0).trans rfl,(kC_ BK175.out 1).trans rfl,(kC_ BK175.out 2).trans rfl,(kC_ BK175.out 3).trans rfl,(kC_ BK176.out 0).trans rfl,(kC_ BK176.out 1).trans rfl,(kC_ BK176.out 2).trans rfl,(kC_ BK176.out 3).trans rfl,((HB.out.cell (wL_ w _ hw180_0)).trans hw180_0),((HB.out.cell (wL_ w _ hw180_1)).trans hw180_1),((HB.out.cell (wL_ w _ hw180_2)).trans hw180_2),((HB.out.cell (wL_ w _ hw181_0)).trans hw181_0),((HB.out.cell (wL_ w _ hw181_1)).trans hw181_1),((HB.out.cell (wL_ w _ hw181_2)).trans hw181_2)⟩ (fun hHeld=>?_)
                  clear hK K
                  refine norm_ (a':=?_) ?_ ?_
                  rotate_left
                  ·show Act.put _ (some 7) _ = _
                   simp only [Act.put,sI_,sZ_,sS_,i64_w,i32_w]
                   rfl
                  refine one_ (i:=11) (N:=some 8) (tb_ 12 2) rfl rfl (one_of HT_.out (by kernel_rfl)) (by decide) (fun K hK=>?_)
                  refine box_step ?hg (N:=8) ?hd (cs:=#[.string (⟨#[]⟩ : ByteArray),.bool false,.slice none 0 0]) (t:=148) ?hr ?_;(case hd=>rfl);(case hg=>rfl);(case hr=>first | (go_simp;done) | (go_simp;rfl))
                  intro gb183 hg w61 hbox hb
                  have n0_:=aM_ (blk_below (g:=gb175) (o:=.cells #[.string a0_0,.slice A0_1 l0_1.length c0_1,.slice A0_2 l0_2.length c0_2,.slice (some ad180) l0_3.length c0_3] 87 (0,0)) (by exact kZ_ BK175) hb)
                  have n1_:=aM_ (blk_below (g:=gb176) (o:=.cells #[.string a1_0,.slice A1_1 l1_1.length c1_1,.slice A1_2 l1_2.length c1_2,.slice (some ad181) l1_3.length c1_3] 87 (0,0)) (by exact kZ_ BK176) hb)
                  have n2_:=aM_ (blk_below (g:=gb182) (o:=.cells #[.string (⟨#[]⟩ : ByteArray),.bool false,.slice none 0 0] 148 (0,0)) (by exact kZ_ BK182) hb)
                  have n3_:=aM_ (bT_ (by exact bZ_ HB) hb)
                  have n4_:=aM_ (hbox)
                  have n5_:=aM_ ((by rw [hg];exact (bS_ (by exact bZ_ HB)) : w.heap.size ≤ gb183))
                  have n6_:=aM_ ((by rw [hg];exact (bS_ (by exact bZ_ HB)) : w.heap.size ≤ gb183))
                  have n7_:=aM_ ((by rw [hg];exact nN_ (blk_lt (g:=gb175) (o:=.cells #[.string a0_0,.slice A0_1 l0_1.length c0_1,.slice A0_2 l0_2.length c0_2,.slice (some ad180) l0_3.length c0_3] 87 (0,0)) (by exact kZ_ BK175)) : gb175 ≠ gb183))
                  have n8_:=aM_ ((by rw [hg];exact Nat.ne_of_gt (blk_lt (g:=gb175) (o:=.cells #[.string a0_0,.slice A0_1 l0_1.length c0_1,.slice A0_2 l0_2.length c0_2,.slice (some ad180) l0_3.length c0_3] 87 (0,0)) (by exact kZ_ BK175)) : gb183 ≠ gb175))
                  have n9_:=aM_ ((by rw [hg];exact nN_ (blk_lt (g:=gb176) (o:=.cells #[.string a1_0,.slice A1_1 l1_1.length c1_1,.slice A1_2 l1_2.length c1_2,.slice (some ad181) l1_3.length c1_3] 87 (0,0)) (by exact kZ_ BK176)) : gb176 ≠ gb183))
                  have n10_:=aM_ ((by rw [hg];exact Nat.ne_of_gt (blk_lt (g:=gb176) (o:=.cells #[.string a1_0,.slice A1_1 l1_1.length c1_1,.slice A1_2 l1_2.length c1_2,.slice (some ad181) l1_3.length c1_3] 87 (0,0)) (by exact kZ_ BK176)) : gb183 ≠ gb176))
                  have n11_:=aM_ ((by rw [hg];exact nN_ (blk_lt (g:=gb182) (o:=.cells #[.string (⟨#[]⟩ : ByteArray),.bool false,.slice none 0 0] 148 (0,0)) (by exact kZ_ BK182)) : gb182 ≠ gb183))
                  have n12_:=aM_ ((by rw [hg];exact Nat.ne_of_gt (blk_lt (g:=gb182) (o:=.cells #[.string (⟨#[]⟩ : ByteArray),.bool false,.slice none 0 0] 148 (0,0)) (by exact kZ_ BK182)) : gb183 ≠ gb182))
                  clear BK175 BK176 BK182 HB
                  have BK175:=n0_
                  have BK176:=n1_
                  have BK182:=n2_
                  have HB:=n3_
                  have BK183:=n4_
                  have GW183:=n5_
                  have GE183:=n6_
                  have NB175_183:=n7_
                  have NB183_175:=n8_
                  have NB176_183:=n9_
                  have NB183_176:=n10_
                  have NB182_183:=n11_
                  have NB183_182:=n12_
                  clear n0_ n1_ n2_ n3_ n4_ n5_ n6_ n7_ n8_ n9_ n10_ n11_ n12_ hb hbox hg
                  refine hK.out _ _ ⟨(kC_ BK175.out 0).trans rfl,(kC_ BK175.out 1).trans rfl,(kC_ BK175.out 2).trans rfl,(kC_ BK175.out 3).trans rfl,(kC_ BK176.out 0).trans rfl,(kC_ BK176.out 1).trans rfl,(kC_ BK176.out 2).trans rfl,(kC_ BK176.out 3).trans rfl,((HB.out.cell (wL_ w _ hw180_0)).trans hw180_0),((HB.out.cell (wL_ w _ hw180_1)).trans hw180_1),((HB.out.cell (wL_ w _ hw180_2)).trans hw180_2),((HB.out.cell (wL_ w _ hw181_0)).trans hw181_0),((HB.out.cell (wL_ w _ hw181_1)).trans hw181_1),((HB.out.cell (wL_ w _ hw181_2)).trans hw181_2)⟩ (fun hHeld=>?_)
                  clear hK K
                  refine norm_ (a':=?_) ?_ ?_
                  rotate_left
                  ·show Act.put _ (some 8) _ = _
                   simp only [Act.put,sI_,sZ_,sS_,i64_w,i32_w]
                   rfl
                  exact norm_ (by simp only [putAll,Act.put,sI_,sZ_,sS_]) (hCont (gb182,gb183) _ ⟨hHeld,(by exact kZ_ BK175),(by exact kZ_ BK176),(by exact kZ_ BK182),(by exact kZ_ BK183),GW182.out,GE182.out,NB175_182.out,NB182_175.out,NB176_182.out,NB182_176.out,NB183_182.out,NB182_183.out,GW183.out,GE183.out,NB175_183.out,NB183_175.out,NB176_183.out,NB183_176.out,(by exact bZ_ HB)⟩)
                 ·skip
                  refine box_step ?hg (N:=8) ?hd (cs:=#[.string (⟨#[]⟩ : ByteArray),.bool false,.slice none 0 0]) (t:=148) ?hr ?_;(case hd=>rfl);(case hg=>rfl);(case hr=>first | (go_simp;done) | (go_simp;rfl))
                  intro gb183 hg w60 hbox hb
                  have n0_:=aM_ (blk_below (g:=gb175) (o:=.cells #[.string a0_0,.slice A0_1 l0_1.length c0_1,.slice A0_2 l0_2.length c0_2,.slice (some ad180) l0_3.length c0_3] 87 (0,0)) (by exact kZ_ BK175) hb)
                  have n1_:=aM_ (blk_below (g:=gb176) (o:=.cells #[.string a1_0,.slice A1_1 l1_1.length c1_1,.slice A1_2 l1_2.length c1_2,.slice (some ad181) l1_3.length c1_3] 87 (0,0)) (by exact kZ_ BK176) hb)
                  have n2_:=aM_ (bT_ (by exact bZ_ HB) hb)
                  have n3_:=aM_ (hbox)
                  have n4_:=aM_ ((by rw [hg];exact (bS_ (by exact bZ_ HB)) : w.heap.size ≤ gb183))
                  have n5_:=aM_ ((by rw [hg];exact (bS_ (by exact bZ_ HB)) : w.heap.size ≤ gb183))
                  have n6_:=aM_ ((by rw [hg];exact nN_ (blk_lt (g:=gb175) (o:=.cells #[.string a0_0,.slice A0_1 l0_1.length c0_1,.slice A0_2 l0_2.length c0_2,.slice (some ad180) l0_3.length c0_3] 87 (0,0)) (by exact kZ_ BK175)) : gb175 ≠ gb183))
                  have n7_:=aM_ ((by rw [hg];exact Nat.ne_of_gt (blk_lt (g:=gb175) (o:=.cells #[.string a0_0,.slice A0_1 l0_1.length c0_1,.slice A0_2 l0_2.length c0_2,.slice (some ad180) l0_3.length c0_3] 87 (0,0)) (by exact kZ_ BK175)) : gb183 ≠ gb175))
                  have n8_:=aM_ ((by rw [hg];exact nN_ (blk_lt (g:=gb176) (o:=.cells #[.string a1_0,.slice A1_1 l1_1.length c1_1,.slice A1_2 l1_2.length c1_2,.slice (some ad181) l1_3.length c1_3] 87 (0,0)) (by exact kZ_ BK176)) : gb176 ≠ gb183))
                  have n9_:=aM_ ((by rw [hg];exact Nat.ne_of_gt (blk_lt (g:=gb176) (o:=.cells #[.string a1_0,.slice A1_1 l1_1.length c1_1,.slice A1_2 l1_2.length c1_2,.slice (some ad181) l1_3.length c1_3] 87 (0,0)) (by exact kZ_ BK176)) : gb183 ≠ gb176))
                  clear BK175 BK176 HB
                  have BK175:=n0_
                  have BK176:=n1_
                  have HB:=n2_
                  have BK183:=n3_
                  have GW183:=n4_
                  have GE183:=n5_
                  have NB175_183:=n6_
                  have NB183_175:=n7_
                  have NB176_183:=n8_
                  have NB183_176:=n9_
                  clear n0_ n1_ n2_ n3_ n4_ n5_ n6_ n7_ n8_ n9_ hb hbox hg
                  refine hK.out _ _ ⟨(kC_ BK175.out 0).trans rfl,(kC_ BK175.out 1).trans rfl,(kC_ BK175.out 2).trans rfl,(kC_ BK175.out 3).trans rfl,(kC_ BK176.out 0).trans rfl,(kC_ BK176.out 1).trans rfl,(kC_ BK176.out 2).trans rfl,(kC_ BK176.out 3).trans rfl,((HB.out.cell (wL_ w _ hw180_0)).trans hw180_0),((HB.out.cell (wL_ w _ hw180_1)).trans hw180_1),((HB.out.cell (wL_ w _ hw180_2)).trans hw180_2),((HB.out.cell (wL_ w _ hw181_0)).trans hw181_0),((HB.out.cell (wL_ w _ hw181_1)).trans hw181_1),((HB.out.cell (wL_ w _ hw181_2)).trans hw181_2)⟩ (fun hHeld=>?_)
                  clear hK K
                  refine norm_ (a':=?_) ?_ ?_
                  rotate_left
                  ·show Act.put _ (some 8) _ = _
                   simp only [Act.put,sI_,sZ_,sS_,i64_w,i32_w]
                   rfl
                  refine one_ (i:=10) (N:=some 7) (tb_ 12 2) rfl rfl (one_of HT_.out (by kernel_rfl)) (by decide) (fun K hK=>?_)
                  refine box_step ?hg (N:=7) ?hd (cs:=#[.string (⟨#[]⟩ : ByteArray),.bool false,.slice none 0 0]) (t:=148) ?hr ?_;(case hd=>rfl);(case hg=>rfl);(case hr=>first | (go_simp;done) | (go_simp;rfl))
                  intro gb182 hg w61 hbox hb
                  have n0_:=aM_ (blk_below (g:=gb175) (o:=.cells #[.string a0_0,.slice A0_1 l0_1.length c0_1,.slice A0_2 l0_2.length c0_2,.slice (some ad180) l0_3.length c0_3] 87 (0,0)) (by exact kZ_ BK175) hb)
                  have n1_:=aM_ (blk_below (g:=gb176) (o:=.cells #[.string a1_0,.slice A1_1 l1_1.length c1_1,.slice A1_2 l1_2.length c1_2,.slice (some ad181) l1_3.length c1_3] 87 (0,0)) (by exact kZ_ BK176) hb)
                  have n2_:=aM_ (blk_below (g:=gb183) (o:=.cells #[.string (⟨#[]⟩ : ByteArray),.bool false,.slice none 0 0] 148 (0,0)) (by exact kZ_ BK183) hb)
                  have n3_:=aM_ (bT_ (by exact bZ_ HB) hb)
                  have n4_:=aM_ (hbox)
                  have n5_:=aM_ ((by rw [hg];exact (bS_ (by exact bZ_ HB)) : w.heap.size ≤ gb182))
                  have n6_:=aM_ ((by rw [hg];exact (bS_ (by exact bZ_ HB)) : w.heap.size ≤ gb182))
                  have n7_:=aM_ ((by rw [hg];exact nN_ (blk_lt (g:=gb175) (o:=.cells #[.string a0_0,.slice A0_1 l0_1.length c0_1,.slice A0_2 l0_2.length c0_2,.slice (some ad180) l0_3.length c0_3] 87 (0,0)) (by exact kZ_ BK175)) : gb175 ≠ gb182))
                  have n8_:=aM_ ((by rw [hg];exact Nat.ne_of_gt (blk_lt (g:=gb175) (o:=.cells #[.string a0_0,.slice A0_1 l0_1.length c0_1,.slice A0_2 l0_2.length c0_2,.slice (some ad180) l0_3.length c0_3] 87 (0,0)) (by exact kZ_ BK175)) : gb182 ≠ gb175))
                  have n9_:=aM_ ((by rw [hg];exact nN_ (blk_lt (g:=gb176) (o:=.cells #[.string a1_0,.slice A1_1 l1_1.length c1_1,.slice A1_2 l1_2.length c1_2,.slice (some ad181) l1_3.length c1_3] 87 (0,0)) (by exact kZ_ BK176)) : gb176 ≠ gb182))
                  have n10_:=aM_ ((by rw [hg];exact Nat.ne_of_gt (blk_lt (g:=gb176) (o:=.cells #[.string a1_0,.slice A1_1 l1_1.length c1_1,.slice A1_2 l1_2.length c1_2,.slice (some ad181) l1_3.length c1_3] 87 (0,0)) (by exact kZ_ BK176)) : gb182 ≠ gb176))
                  have n11_:=aM_ ((by rw [hg];exact nN_ (blk_lt (g:=gb183) (o:=.cells #[.string (⟨#[]⟩ : ByteArray),.bool false,.slice none 0 0] 148 (0,0)) (by exact kZ_ BK183)) : gb183 ≠ gb182))
                  have n12_:=aM_ ((by rw [hg];exact Nat.ne_of_gt (blk_lt (g:=gb183) (o:=.cells #[.string (⟨#[]⟩ : ByteArray),.bool false,.slice none 0 0] 148 (0,0)) (by exact kZ_ BK183)) : gb182 ≠ gb183))
                  clear BK175 BK176 BK183 HB
                  have BK175:=n0_
                  have BK176:=n1_
                  have BK183:=n2_
                  have HB:=n3_
                  have BK182:=n4_
                  have GW182:=n5_
                  have GE182:=n6_
                  have NB175_182:=n7_
                  have NB182_175:=n8_
                  have NB176_182:=n9_
                  have NB182_176:=n10_
                  have NB183_182:=n11_
                  have NB182_183:=n12_
                  clear n0_ n1_ n2_ n3_ n4_ n5_ n6_ n7_ n8_ n9_ n10_ n11_ n12_ hb hbox hg
                  refine hK.out _ _ ⟨(kC_ BK175.out 0).trans rfl,(kC_ BK175.out 1).trans rfl,(kC_ BK175.out 2).trans rfl,(kC_ BK175.out 3).trans rfl,(kC_ BK176.out 0).trans rfl,(kC_ BK176.out 1).trans rfl,(kC_ BK176.out 2).trans rfl,(kC_ BK176.out 3).trans rfl,((HB.out.cell (wL_ w _ hw180_0)).trans hw180_0),((HB.out.cell (wL_ w _ hw180_1)).trans hw180_1),((HB.out.cell (wL_ w _ hw180_2)).trans hw180_2),((HB.out.cell (wL_ w _ hw181_0)).trans hw181_0),((HB.out.cell (wL_ w _ hw181_1)).trans hw181_1),((HB.out.cell (wL_ w _ hw181_2)).trans hw181_2)⟩ (fun hHeld=>?_)
                  clear hK K
                  refine norm_ (a':=?_) ?_ ?_
                  rotate_left
                  ·show Act.put _ (some 7) _ = _
                   simp only [Act.put,sI_,sZ_,sS_,i64_w,i32_w]
                   rfl
                  exact norm_ (by simp only [putAll,Act.put,sI_,sZ_,sS_]) (hCont (gb182,gb183) _ ⟨hHeld,(by exact kZ_ BK175),(by exact kZ_ BK176),(by exact kZ_ BK182),(by exact kZ_ BK183),GW182.out,GE182.out,NB175_182.out,NB182_175.out,NB176_182.out,NB182_176.out,NB183_182.out,NB182_183.out,GW183.out,GE183.out,NB175_183.out,NB183_175.out,NB176_183.out,NB183_176.out,(by exact bZ_ HB)⟩)
                rintro ⟨gb182,gb183⟩ w62 ⟨hS_,h0_,h1_,h2_,h3_,h4_,h5_,h6_,h7_,h8_,h9_,h10_,h11_,h12_,h13_,h14_,h15_,h16_,h17_,h18_⟩
                have n0_ : Aside0 (w62.heap[gb175]? = some (.cells #[.string a0_0,.slice A0_1 l0_1.length c0_1,.slice A0_2 l0_2.length c0_2,.slice (some ad180) l0_3.length c0_3] 87 (0,0))):=⟨h0_⟩
                have n1_ : Aside0 (w62.heap[gb176]? = some (.cells #[.string a1_0,.slice A1_1 l1_1.length c1_1,.slice A1_2 l1_2.length c1_2,.slice (some ad181) l1_3.length c1_3] 87 (0,0))):=⟨h1_⟩
                have n2_ : Aside0 (w62.heap[gb182]? = some (.cells #[.string (⟨#[]⟩ : ByteArray),.bool false,.slice none 0 0] 148 (0,0))):=⟨h2_⟩
                have n3_ : Aside0 (w62.heap[gb183]? = some (.cells #[.string (⟨#[]⟩ : ByteArray),.bool false,.slice none 0 0] 148 (0,0))):=⟨h3_⟩
                have n4_ : Aside0 (w.heap.size ≤ gb182):=⟨h4_⟩
                have n5_ : Aside0 (w.heap.size ≤ gb182):=⟨h5_⟩
                have n6_ : Aside0 (gb175 ≠ gb182):=⟨h6_⟩
                have n7_ : Aside0 (gb182 ≠ gb175):=⟨h7_⟩
                have n8_ : Aside0 (gb176 ≠ gb182):=⟨h8_⟩
                have n9_ : Aside0 (gb182 ≠ gb176):=⟨h9_⟩
                have n10_ : Aside0 (gb183 ≠ gb182):=⟨h10_⟩
                have n11_ : Aside0 (gb182 ≠ gb183):=⟨h11_⟩
                have n12_ : Aside0 (w.heap.size ≤ gb183):=⟨h12_⟩
                have n13_ : Aside0 (w.heap.size ≤ gb183):=⟨h13_⟩
                have n14_ : Aside0 (gb175 ≠ gb183):=⟨h14_⟩
                have n15_ : Aside0 (gb183 ≠ gb175):=⟨h15_⟩
                have n16_ : Aside0 (gb176 ≠ gb183):=⟨h16_⟩
                have n17_ : Aside0 (gb183 ≠ gb176):=⟨h17_⟩
                have n18_ : Aside0 (Below w.heap.size w w62):=⟨h18_⟩
                clear BK175 BK176 HB h0_ h1_ h2_ h3_ h4_ h5_ h6_ h7_ h8_ h9_ h10_ h11_ h12_ h13_ h14_ h15_ h16_ h17_ h18_
                have BK175:=n0_
                have BK176:=n1_
                have BK182:=n2_
                have BK183:=n3_
                have GW182:=n4_
                have GE182:=n5_
                have NB175_182:=n6_
                have NB182_175:=n7_
                have NB176_182:=n8_
                have NB182_176:=n9_
                have NB183_182:=n10_
                have NB182_183:=n11_
                have GW183:=n12_
                have GE183:=n13_
                have NB175_183:=n14_
                have NB183_175:=n15_
                have NB176_183:=n16_
                have NB183_176:=n17_
                have HB:=n18_
                clear n0_ n1_ n2_ n3_ n4_ n5_ n6_ n7_ n8_ n9_ n10_ n11_ n12_ n13_ n14_ n15_ n16_ n17_ n18_
                have hHeld : w62.cell? ⟨gb175,0,none⟩ = some (.string a0_0) ∧ w62.cell? ⟨gb175,1,none⟩ = some (.slice A0_1 l0_1.length c0_1) ∧ w62.cell? ⟨gb175,2,none⟩ = some (.slice A0_2 l0_2.length c0_2) ∧ w62.cell? ⟨gb175,3,none⟩ = some (.slice (some ad180) l0_3.length c0_3) ∧ w62.cell? ⟨gb176,0,none⟩ = some (.string a1_0) ∧ w62.cell? ⟨gb176,1,none⟩ = some (.slice A1_1 l1_1.length c1_1) ∧ w62.cell? ⟨gb176,2,none⟩ = some (.slice A1_2 l1_2.length c1_2) ∧ w62.cell? ⟨gb176,3,none⟩ = some (.slice (some ad181) l1_3.length c1_3) ∧ w62.cell? (ad180.add ((x61_3).toNat * 3)) = some (.string ((rd_T148 l0_3 x61_3).f0)) ∧ w62.cell? ⟨(ad180.add ((x61_3).toNat * 3)).block,(ad180.add ((x61_3).toNat * 3)).off + 1,none⟩ = some (.bool ((rd_T148 l0_3 x61_3).f1)) ∧ w62.cell? ⟨(ad180.add ((x61_3).toNat * 3)).block,(ad180.add ((x61_3).toNat * 3)).off + 2,none⟩ = some (.slice A180_2 ((rd_T148 l0_3 x61_3).f2).length c180_2) ∧ w62.cell? (ad181.add ((x61_3).toNat * 3)) = some (.string ((rd_T148 l1_3 x61_3).f0)) ∧ w62.cell? ⟨(ad181.add ((x61_3).toNat * 3)).block,(ad181.add ((x61_3).toNat * 3)).off + 1,none⟩ = some (.bool ((rd_T148 l1_3 x61_3).f1)) ∧ w62.cell? ⟨(ad181.add ((x61_3).toNat * 3)).block,(ad181.add ((x61_3).toNat * 3)).off + 2,none⟩ = some (.slice A181_2 ((rd_T148 l1_3 x61_3).f2).length c181_2):=hS_
                refine norm_ (a':=?_) ?_ ?_
                rotate_left
                ·simp only [putAll,Act.put,sI_,sZ_,sS_]
                 rfl
                refine one_ (i:=12) (N:=none) (tb_ 13 1) rfl rfl (one_of HT_.out (by kernel_rfl)) (by decide) (fun K hK=>?_)
                have hs63 : w62.cell? ⟨gb182,0,none⟩ = some (.string (⟨#[]⟩ : ByteArray)):=(kC_ BK182.out 0).trans rfl
                have hfs63:=kF_ BK182.out 0
                have hns63_0:=NB175_182.out
                have hns63_1:=NB176_182.out
                have hns63_3:=NB183_182.out
                have hms63_0:=NB182_175.out
                have hms63_1:=NB182_176.out
                have hms63_3:=NB182_183.out
                have hs64 : w62.cell? ⟨gb182,1,none⟩ = some (.bool false):=(kC_ BK182.out 1).trans rfl
                have hfs64:=kF_ BK182.out 1
                have hns64_0:=NB175_182.out
                have hns64_1:=NB176_182.out
                have hns64_3:=NB183_182.out
                have hms64_0:=NB182_175.out
                have hms64_1:=NB182_176.out
                have hms64_3:=NB182_183.out
                have hs65 : w62.cell? ⟨gb182,2,none⟩ = some (.slice none 0 0):=(kC_ BK182.out 2).trans rfl
                have hfs65:=kF_ BK182.out 2
                have hns65_0:=NB175_182.out
                have hns65_1:=NB176_182.out
                have hns65_3:=NB183_182.out
                have hms65_0:=NB182_175.out
                have hms65_1:=NB182_176.out
                have hms65_3:=NB182_183.out
                refine skip_ (w1:=?_) (by rfl) rfl ?_ ?_
                rotate_left
                ·go_simp
                 rfl
                refine hK.out _ _ ⟨((cell_far (p:=⟨gb182,_,none⟩) NB175_182.out _).trans (((cell_far (p:=⟨gb182,_,none⟩) NB175_182.out _).trans (((cell_far (p:=⟨gb182,_,none⟩) NB175_182.out _).trans (hHeld.1)))))),((cell_far (p:=⟨gb182,_,none⟩) NB175_182.out _).trans (((cell_far (p:=⟨gb182,_,none⟩) NB175_182.out _).trans (((cell_far (p:=⟨gb182,_,none⟩) NB175_182.out _).trans (hHeld.2.1)))))),((cell_far (p:=⟨gb182,_,none⟩) NB175_182.out _).trans (((cell_far (p:=⟨gb182,_,none⟩) NB175_182.out _).trans (((cell_far (p:=⟨gb182,_,none⟩) NB175_182.out _).trans (hHeld.2.2.1)))))),((cell_far (p:=⟨gb182,_,none⟩) NB175_182.out _).trans (((cell_far (p:=⟨gb182,_,none⟩) NB175_182.out _).trans (((cell_far (p:=⟨gb182,_,none⟩) NB175_182.out _).trans (hHeld.2.2.2.1)))))),((cell_far (p:=⟨gb182,_,none⟩) NB176_182.out _).trans (((cell_far (p:=⟨gb182,_,none⟩) NB176_182.out _).trans (((cell_far (p:=⟨gb182,_,none⟩) NB176_182.out _).trans (hHeld.2.2.2.2.1)))))),((cell_far (p:=⟨gb182,_,none⟩) NB176_182.out _).trans (((cell_far (p:=⟨gb182,_,none⟩) NB176_182.out _).trans (((cell_far (p:=⟨gb182,_,none⟩) NB176_182.out _).trans (hHeld.2.2.2.2.2.1)))))),((cell_far (p:=⟨gb182,_,none⟩) NB176_182.out _).trans (((cell_far (p:=⟨gb182,_,none⟩) NB176_182.out _).trans (((cell_far (p:=⟨gb182,_,none⟩) NB176_182.out _).trans (hHeld.2.2.2.2.2.2.1)))))),((cell_far (p:=⟨gb182,_,none⟩) NB176_182.out _).trans (((cell_far (p:=⟨gb182,_,none⟩) NB176_182.out _).trans (((cell_far (p:=⟨gb182,_,none⟩) NB176_182.out _).trans (hHeld.2.2.2.2.2.2.2.1)))))),((cell_far (p:=⟨gb182,_,none⟩) (by first | exact nN_ (nL_ (by have:=wL_ _ _ hw180_0;first | rwa [add_block] at this | exact this) GW182.out) | (rw [add_block];exact nN_ (nL_ (by have:=wL_ _ _ hw180_0;first | rwa [add_block] at this | exact this) GW182.out)) | (show (Addr.add _ _).block ≠ _;rw [add_block];exact nN_ (nL_ (by have:=wL_ _ _ hw180_0;first | rwa [add_block] at this | exact this) GW182.out)) | (dsimp only;exact nN_ (nL_ (by have:=wL_ _ _ hw180_0;first | rwa [add_block] at this | exact this) GW182.out))) _).trans (((cell_far (p:=⟨gb182,_,none⟩) (by first | exact nN_ (nL_ (by have:=wL_ _ _ hw180_0;first | rwa [add_block] at this | exact this) GW182.out) | (rw [add_block];exact nN_ (nL_ (by have:=wL_ _ _ hw180_0;first | rwa [add_block] at this | exact this) GW182.out)) | (show (Addr.add _ _).block ≠ _;rw [add_block];exact nN_ (nL_ (by have:=wL_ _ _ hw180_0;first | rwa [add_block] at this | exact this) GW182.out)) | (dsimp only;exact nN_ (nL_ (by have:=wL_ _ _ hw180_0;first | rwa [add_block] at this | exact this) GW182.out))) _).trans (((cell_far (p:=⟨gb182,_,none⟩) (by first | exact nN_ (nL_ (by have:=wL_ _ _ hw180_0;first | rwa [add_block] at this | exact this) GW182.out) | (rw [add_block];exact nN_ (nL_ (by have:=wL_ _ _ hw180_0;first | rwa [add_block] at this | exact this) GW182.out)) | (show (Addr.add _ _).block ≠ _;rw [add_block];exact nN_ (nL_ (by have:=wL_ _ _ hw180_0;first | rwa [add_block] at this | exact this) GW182.out)) | (dsimp only;exact nN_ (nL_ (by have:=wL_ _ _ hw180_0;first | rwa [add_block] at this | exact this) GW182.out))) _).trans (hHeld.2.2.2.2.2.2.2.2.1)))))),((cell_far (p:=⟨gb182,_,none⟩) (by first | exact nN_ (nL_ (by have:=wL_ _ _ hw180_1;first | rwa [add_block] at this | exact this) GW182.out) | (rw [add_block];exact nN_ (nL_ (by have:=wL_ _ _ hw180_1;first | rwa [add_block] at this | exact this) GW182.out)) | (show (Addr.add _ _).block ≠ _;rw [add_block];exact nN_ (nL_ (by have:=wL_ _ _ hw180_1;first | rwa [add_block] at this | exact this) GW182.out)) | (dsimp only;exact nN_ (nL_ (by have:=wL_ _ _ hw180_1;first | rwa [add_block] at this | exact this) GW182.out))) _).trans (((cell_far (p:=⟨gb182,_,none⟩) (by first | exact nN_ (nL_ (by have:=wL_ _ _ hw180_1;first | rwa [add_block] at this | exact this) GW182.out) | (rw [add_block];exact nN_ (nL_ (by have:=wL_ _ _ hw180_1;first | rwa [add_block] at this | exact this) GW182.out)) | (show (Addr.add _ _).block ≠ _;rw [add_block];exact nN_ (nL_ (by have:=wL_ _ _ hw180_1;first | rwa [add_block] at this | exact this) GW182.out)) | (dsimp only;exact nN_ (nL_ (by have:=wL_ _ _ hw180_1;first | rwa [add_block] at this | exact this) GW182.out))) _).trans (((cell_far (p:=⟨gb182,_,none⟩) (by first | exact nN_ (nL_ (by have:=wL_ _ _ hw180_1;first | rwa [add_block] at this | exact this) GW182.out) | (rw [add_block];exact nN_ (nL_ (by have:=wL_ _ _ hw180_1;first | rwa [add_block] at this | exact this) GW182.out)) | (show (Addr.add _ _).block ≠ _;rw [add_block];exact nN_ (nL_ (by have:=wL_ _ _ hw180_1;first | rwa [add_block] at this | exact this) GW182.out)) | (dsimp only;exact nN_ (nL_ (by have:=wL_ _ _ hw180_1;first | rwa [add_block] at this | exact this) GW182.out))) _).trans (hHeld.2.2.2.2.2.2.2.2.2.1)))))),((cell_far (p:=⟨gb182,_,none⟩) (by first | exact nN_ (nL_ (by have:=wL_ _ _ hw180_2;first | rwa [add_block] at this | exact this) GW182.out) | (rw [add_block];exact nN_ (nL_ (by have:=wL_ _ _ hw180_2;first | rwa [add_block] at this | exact this) GW182.out)) | (show (Addr.add _ _).block ≠ _;rw [add_block];exact nN_ (nL_ (by have:=wL_ _ _ hw180_2;first | rwa [add_block] at this | exact this) GW182.out)) | (dsimp only;exact nN_ (nL_ (by have:=wL_ _ _ hw180_2;first | rwa [add_block] at this | exact this) GW182.out))) _).trans (((cell_far (p:=⟨gb182,_,none⟩) (by first | exact nN_ (nL_ (by have:=wL_ _ _ hw180_2;first | rwa [add_block] at this | exact this) GW182.out) | (rw [add_block];exact nN_ (nL_ (by have:=wL_ _ _ hw180_2;first | rwa [add_block] at this | exact this) GW182.out)) | (show (Addr.add _ _).block ≠ _;rw [add_block];exact nN_ (nL_ (by have:=wL_ _ _ hw180_2;first | rwa [add_block] at this | exact this) GW182.out)) | (dsimp only;exact nN_ (nL_ (by have:=wL_ _ _ hw180_2;first | rwa [add_block] at this | exact this) GW182.out))) _).trans (((cell_far (p:=⟨gb182,_,none⟩) (by first | exact nN_ (nL_ (by have:=wL_ _ _ hw180_2;first | rwa [add_block] at this | exact this) GW182.out) | (rw [add_block];exact nN_ (nL_ (by have:=wL_ _ _ hw180_2;first | rwa [add_block] at this | exact this) GW182.out)) | (show (Addr.add _ _).block ≠ _;rw [add_block];exact nN_ (nL_ (by have:=wL_ _ _ hw180_2;first | rwa [add_block] at this | exact this) GW182.out)) | (dsimp only;exact nN_ (nL_ (by have:=wL_ _ _ hw180_2;first | rwa [add_block] at this | exact this) GW182.out))) _).trans (hHeld.2.2.2.2.2.2.2.2.2.2.1)))))),((cell_far (p:=⟨gb182,_,none⟩) (by first | exact nN_ (nL_ (by have:=wL_ _ _ hw181_0;first | rwa [add_block] at this | exact this) GW182.out) | (rw [add_block];exact nN_ (nL_ (by have:=wL_ _ _ hw181_0;first | rwa [add_block] at this | exact this) GW182.out)) | (show (Addr.add _ _).block ≠ _;rw [add_block];exact nN_ (nL_ (by have:=wL_ _ _ hw181_0;first | rwa [add_block] at this | exact this) GW182.out)) | (dsimp only;exact nN_ (nL_ (by have:=wL_ _ _ hw181_0;first | rwa [add_block] at this | exact this) GW182.out))) _).trans (((cell_far (p:=⟨gb182,_,none⟩) (by first | exact nN_ (nL_ (by have:=wL_ _ _ hw181_0;first | rwa [add_block] at this | exact this) GW182.out) | (rw [add_block];exact nN_ (nL_ (by have:=wL_ _ _ hw181_0;first | rwa [add_block] at this | exact this) GW182.out)) | (show (Addr.add _ _).block ≠ _;rw [add_block];exact nN_ (nL_ (by have:=wL_ _ _ hw181_0;first | rwa [add_block] at this | exact this) GW182.out)) | (dsimp only;exact nN_ (nL_ (by have:=wL_ _ _ hw181_0;first | rwa [add_block] at this | exact this) GW182.out))) _).trans (((cell_far (p:=⟨gb182,_,none⟩) (by first | exact nN_ (nL_ (by have:=wL_ _ _ hw181_0;first | rwa [add_block] at this | exact this) GW182.out) | (rw [add_block];exact nN_ (nL_ (by have:=wL_ _ _ hw181_0;first | rwa [add_block] at this | exact this) GW182.out)) | (show (Addr.add _ _).block ≠ _;rw [add_block];exact nN_ (nL_ (by have:=wL_ _ _ hw181_0;first | rwa [add_block] at this | exact this) GW182.out)) | (dsimp only;exact nN_ (nL_ (by have:=wL_ _ _ hw181_0;first | rwa [add_block] at this | exact this) GW182.out))) _).trans (hHeld.2.2.2.2.2.2.2.2.2.2.2.1)))))),((cell_far (p:=⟨gb182,_,none⟩) (by first | exact nN_ (nL_ (by have:=wL_ _ _ hw181_1;first | rwa [add_block] at this | exact this) GW182.out) | (rw [add_block];exact nN_ (nL_ (by have:=wL_ _ _ hw181_1;first | rwa [add_block] at this | exact this) GW182.out)) | (show (Addr.add _ _).block ≠ _;rw [add_block];exact nN_ (nL_ (by have:=wL_ _ _ hw181_1;first | rwa [add_block] at this | exact this) GW182.out)) | (dsimp only;exact nN_ (nL_ (by have:=wL_ _ _ hw181_1;first | rwa [add_block] at this | exact this) GW182.out))) _).trans (((cell_far (p:=⟨gb182,_,none⟩) (by first | exact nN_ (nL_ (by have:=wL_ _ _ hw181_1;first | rwa [add_block] at this | exact this) GW182.out) | (rw [add_block];exact nN_ (nL_ (by have:=wL_ _ _ hw181_1;first | rwa [add_block] at this | exact this) GW182.out)) | (show (Addr.add _ _).block ≠ _;rw [add_block];exact nN_ (nL_ (by have:=wL_ _ _ hw181_1;first | rwa [add_block] at this | exact this) GW182.out)) | (dsimp only;exact nN_ (nL_ (by have:=wL_ _ _ hw181_1;first | rwa [add_block] at this | exact this) GW182.out))) _).trans (((cell_far (p:=⟨gb182,_,none⟩) (by first | exact nN_ (nL_ (by have:=wL_ _ _ hw181_1;first | rwa [add_block] at this | exact this) GW182.out) | (rw [add_block];exact nN_ (nL_ (by have:=wL_ _ _ hw181_1;first | rwa [add_block] at this | exact this) GW182.out)) | (show (Addr.add _ _).block ≠ _;rw [add_block];exact nN_ (nL_ (by have:=wL_ _ _ hw181_1;first | rwa [add_block] at this | exact this) GW182.out)) | (dsimp only;exact nN_ (nL_ (by have:=wL_ _ _ hw181_1;first | rwa [add_block] at this | exact this) GW182.out))) _).trans (hHeld.2.2.2.2.2.2.2.2.2.2.2.2.1)))))),((cell_far (p:=⟨gb182,_,none⟩) (by first | exact nN_ (nL_ (by have:=wL_ _ _ hw181_2;first | rwa [add_block] at this | exact this) GW182.out) | (rw [add_block];exact nN_ (nL_ (by have:=wL_ _ _ hw181_2;first | rwa [add_block] at this | exact this) GW182.out)) | (show (Addr.add _ _).block ≠ _;rw [add_block];exact nN_ (nL_ (by have:=wL_ _ _ hw181_2;first | rwa [add_block] at this | exact this) GW182.out)) | (dsimp only;exact nN_ (nL_ (by have:=wL_ _ _ hw181_2;first | rwa [add_block] at this | exact this) GW182.out))) _).trans (((cell_far (p:=⟨gb182,_,none⟩) (by first | exact nN_ (nL_ (by have:=wL_ _ _ hw181_2;first | rwa [add_block] at this | exact this) GW182.out) | (rw [add_block];exact nN_ (nL_ (by have:=wL_ _ _ hw181_2;first | rwa [add_block] at this | exact this) GW182.out)) | (show (Addr.add _ _).block ≠ _;rw [add_block];exact nN_ (nL_ (by have:=wL_ _ _ hw181_2;first | rwa [add_block] at this | exact this) GW182.out)) | (dsimp only;exact nN_ (nL_ (by have:=wL_ _ _ hw181_2;first | rwa [add_block] at this | exact this) GW182.out))) _).trans (((cell_far (p:=⟨gb182,_,none⟩) (by first | exact nN_ (nL_ (by have:=wL_ _ _ hw181_2;first | rwa [add_block] at this | exact this) GW182.out) | (rw [add_block];exact nN_ (nL_ (by have:=wL_ _ _ hw181_2;first | rwa [add_block] at this | exact this) GW182.out)) | (show (Addr.add _ _).block ≠ _;rw [add_block];exact nN_ (nL_ (by have:=wL_ _ _ hw181_2;first | rwa [add_block] at this | exact this) GW182.out)) | (dsimp only;exact nN_ (nL_ (by have:=wL_ _ _ hw181_2;first | rwa [add_block] at this | exact this) GW182.out))) _).trans (hHeld.2.2.2.2.2.2.2.2.2.2.2.2.2))))))⟩ (fun hHeld=>?_)
                clear hK K
                refine one_ (i:=13) (N:=none) (tb_ 14 0) rfl rfl (one_of HT_.out (by kernel_rfl)) (by decide) (fun K hK=>?_)
                have hs66 : w62.cell? ⟨gb183,0,none⟩ = some (.string (⟨#[]⟩ : ByteArray)):=(kC_ BK183.out 0).trans rfl
                have hfs66:=kF_ BK183.out 0
                have hns66_0:=NB175_183.out
                have hns66_1:=NB176_183.out
                have hns66_2:=NB182_183.out
                have hms66_0:=NB183_175.out
                have hms66_1:=NB183_176.out
                have hms66_2:=NB183_182.out
                have hs67 : w62.cell? ⟨gb183,1,none⟩ = some (.bool false):=(kC_ BK183.out 1).trans rfl
                have hfs67:=kF_ BK183.out 1
                have hns67_0:=NB175_183.out
                have hns67_1:=NB176_183.out
                have hns67_2:=NB182_183.out
                have hms67_0:=NB183_175.out
                have hms67_1:=NB183_176.out
                have hms67_2:=NB183_182.out
                have hs68 : w62.cell? ⟨gb183,2,none⟩ = some (.slice none 0 0):=(kC_ BK183.out 2).trans rfl
                have hfs68:=kF_ BK183.out 2
                have hns68_0:=NB175_183.out
                have hns68_1:=NB176_183.out
                have hns68_2:=NB182_183.out
                have hms68_0:=NB183_175.out
                have hms68_1:=NB183_176.out
                have hms68_2:=NB183_182.out
                refine skip_ (w1:=?_) (by rfl) rfl ?_ ?_
                rotate_left
                ·go_simp
                 rfl
                refine hK.out _ _ ⟨((cell_far (p:=⟨gb183,_,none⟩) NB175_183.out _).trans (((cell_far (p:=⟨gb183,_,none⟩) NB175_183.out _).trans (((cell_far (p:=⟨gb183,_,none⟩) NB175_183.out _).trans (hHeld.1)))))),((cell_far (p:=⟨gb183,_,none⟩) NB175_183.out _).trans (((cell_far (p:=⟨gb183,_,none⟩) NB175_183.out _).trans (((cell_far (p:=⟨gb183,_,none⟩) NB175_183.out _).trans (hHeld.2.1)))))),((cell_far (p:=⟨gb183,_,none⟩) NB175_183.out _).trans (((cell_far (p:=⟨gb183,_,none⟩) NB175_183.out _).trans (((cell_far (p:=⟨gb183,_,none⟩) NB175_183.out _).trans (hHeld.2.2.1)))))),((cell_far (p:=⟨gb183,_,none⟩) NB175_183.out _).trans (((cell_far (p:=⟨gb183,_,none⟩) NB175_183.out _).trans (((cell_far (p:=⟨gb183,_,none⟩) NB175_183.out _).trans (hHeld.2.2.2.1)))))),((cell_far (p:=⟨gb183,_,none⟩) NB176_183.out _).trans (((cell_far (p:=⟨gb183,_,none⟩) NB176_183.out _).trans (((cell_far (p:=⟨gb183,_,none⟩) NB176_183.out _).trans (hHeld.2.2.2.2.1)))))),((cell_far (p:=⟨gb183,_,none⟩) NB176_183.out _).trans (((cell_far (p:=⟨gb183,_,none⟩) NB176_183.out _).trans (((cell_far (p:=⟨gb183,_,none⟩) NB176_183.out _).trans (hHeld.2.2.2.2.2.1)))))),((cell_far (p:=⟨gb183,_,none⟩) NB176_183.out _).trans (((cell_far (p:=⟨gb183,_,none⟩) NB176_183.out _).trans (((cell_far (p:=⟨gb183,_,none⟩) NB176_183.out _).trans (hHeld.2.2.2.2.2.2.1)))))),((cell_far (p:=⟨gb183,_,none⟩) NB176_183.out _).trans (((cell_far (p:=⟨gb183,_,none⟩) NB176_183.out _).trans (((cell_far (p:=⟨gb183,_,none⟩) NB176_183.out _).trans (hHeld.2.2.2.2.2.2.2.1)))))),((cell_far (p:=⟨gb183,_,none⟩) (by first | exact nN_ (nL_ (by have:=wL_ _ _ hw180_0;first | rwa [add_block] at this | exact this) GW183.out) | (rw [add_block];exact nN_ (nL_ (by have:=wL_ _ _ hw180_0;first | rwa [add_block] at this | exact this) GW183.out)) | (show (Addr.add _ _).block ≠ _;rw [add_block];exact nN_ (nL_ (by have:=wL_ _ _ hw180_0;first | rwa [add_block] at this | exact this) GW183.out)) | (dsimp only;exact nN_ (nL_ (by have:=wL_ _ _ hw180_0;first | rwa [add_block] at this | exact this) GW183.out))) _).trans (((cell_far (p:=⟨gb183,_,none⟩) (by first | exact nN_ (nL_ (by have:=wL_ _ _ hw180_0;first | rwa [add_block] at this | exact this) GW183.out) | (rw [add_block];exact nN_ (nL_ (by have:=wL_ _ _ hw180_0;first | rwa [add_block] at this | exact this) GW183.out)) | (show (Addr.add _ _).block ≠ _;rw [add_block];exact nN_ (nL_ (by have:=wL_ _ _ hw180_0;first | rwa [add_block] at this | exact this) GW183.out)) | (dsimp only;exact nN_ (nL_ (by have:=wL_ _ _ hw180_0;first | rwa [add_block] at this | exact this) GW183.out))) _).trans (((cell_far (p:=⟨gb183,_,none⟩) (by first | exact nN_ (nL_ (by have:=wL_ _ _ hw180_0;first | rwa [add_block] at this | exact this) GW183.out) | (rw [add_block];exact nN_ (nL_ (by have:=wL_ _ _ hw180_0;first | rwa [add_block] at this | exact this) GW183.out)) | (show (Addr.add _ _).block ≠ _;rw [add_block];exact nN_ (nL_ (by have:=wL_ _ _ hw180_0;first | rwa [add_block] at this | exact this) GW183.out)) | (dsimp only;exact nN_ (nL_ (by have:=wL_ _ _ hw180_0;first | rwa [add_block] at this | exact this) GW183.out))) _).trans (hHeld.2.2.2.2.2.2.2.2.1)))))),((cell_far (p:=⟨gb183,_,none⟩) (by first | exact nN_ (nL_ (by have:=wL_ _ _ hw180_1;first | rwa [add_block] at this | exact this) GW183.out) | (rw [add_block];exact nN_ (nL_ (by have:=wL_ _ _ hw180_1;first | rwa [add_block] at this | exact this) GW183.out)) | (show (Addr.add _ _).block ≠ _;rw [add_block];exact nN_ (nL_ (by have:=wL_ _ _ hw180_1;first | rwa [add_block] at this | exact this) GW183.out)) | (dsimp only;exact nN_ (nL_ (by have:=wL_ _ _ hw180_1;first | rwa [add_block] at this | exact this) GW183.out))) _).trans (((cell_far (p:=⟨gb183,_,none⟩) (by first | exact nN_ (nL_ (by have:=wL_ _ _ hw180_1;first | rwa [add_block] at this | exact this) GW183.out) | (rw [add_block];exact nN_ (nL_ (by have:=wL_ _ _ hw180_1;first | rwa [add_block] at this | exact this) GW183.out)) | (show (Addr.add _ _).block ≠ _;rw [add_block];exact nN_ (nL_ (by have:=wL_ _ _ hw180_1;first | rwa [add_block] at this | exact this) GW183.out)) | (dsimp only;exact nN_ (nL_ (by have:=wL_ _ _ hw180_1;first | rwa [add_block] at this | exact this) GW183.out))) _).trans (((cell_far (p:=⟨gb183,_,none⟩) (by first | exact nN_ (nL_ (by have:=wL_ _ _ hw180_1;first | rwa [add_block] at this | exact this) GW183.out) | (rw [add_block];exact nN_ (nL_ (by have:=wL_ _ _ hw180_1;first | rwa [add_block] at this | exact this) GW183.out)) | (show (Addr.add _ _).block ≠ _;rw [add_block];exact nN_ (nL_ (by have:=wL_ _ _ hw180_1;first | rwa [add_block] at this | exact this) GW183.out)) | (dsimp only;exact nN_ (nL_ (by have:=wL_ _ _ hw180_1;first | rwa [add_block] at this | exact this) GW183.out))) _).trans (hHeld.2.2.2.2.2.2.2.2.2.1)))))),((cell_far (p:=⟨gb183,_,none⟩) (by first | exact nN_ (nL_ (by have:=wL_ _ _ hw180_2;first | rwa [add_block] at this | exact this) GW183.out) | (rw [add_block];exact nN_ (nL_ (by have:=wL_ _ _ hw180_2;first | rwa [add_block] at this | exact this) GW183.out)) | (show (Addr.add _ _).block ≠ _;rw [add_block];exact nN_ (nL_ (by have:=wL_ _ _ hw180_2;first | rwa [add_block] at this | exact this) GW183.out)) | (dsimp only;exact nN_ (nL_ (by have:=wL_ _ _ hw180_2;first | rwa [add_block] at this | exact this) GW183.out))) _).trans (((cell_far (p:=⟨gb183,_,none⟩) (by first | exact nN_ (nL_ (by have:=wL_ _ _ hw180_2;first | rwa [add_block] at this | exact this) GW183.out) | (rw [add_block];exact nN_ (nL_ (by have:=wL_ _ _ hw180_2;first | rwa [add_block] at this | exact this) GW183.out)) | (show (Addr.add _ _).block ≠ _;rw [add_block];exact nN_ (nL_ (by have:=wL_ _ _ hw180_2;first | rwa [add_block] at this | exact this) GW183.out)) | (dsimp only;exact nN_ (nL_ (by have:=wL_ _ _ hw180_2;first | rwa [add_block] at this | exact this) GW183.out))) _).trans (((cell_far (p:=⟨gb183,_,none⟩) (by first | exact nN_ (nL_ (by have:=wL_ _ _ hw180_2;first | rwa [add_block] at this | exact this) GW183.out) | (rw [add_block];exact nN_ (nL_ (by have:=wL_ _ _ hw180_2;first | rwa [add_block] at this | exact this) GW183.out)) | (show (Addr.add _ _).block ≠ _;rw [add_block];exact nN_ (nL_ (by have:=wL_ _ _ hw180_2;first | rwa [add_block] at this | exact this) GW183.out)) | (dsimp only;exact nN_ (nL_ (by have:=wL_ _ _ hw180_2;first | rwa [add_block] at this | exact this) GW183.out))) _).trans (hHeld.2.2.2.2.2.2.2.2.2.2.1)))))),((cell_far (p:=⟨gb183,_,none⟩) (by first | exact nN_ (nL_ (by have:=wL_ _ _ hw181_0;first | rwa [add_block] at this | exact this) GW183.out) | (rw [add_block];exact nN_ (nL_ (by have:=wL_ _ _ hw181_0;first | rwa [add_block] at this | exact this) GW183.out)) | (show (Addr.add _ _).block ≠ _;rw [add_block];exact nN_ (nL_ (by have:=wL_ _ _ hw181_0;first | rwa [add_block] at this | exact this) GW183.out)) | (dsimp only;exact nN_ (nL_ (by have:=wL_ _ _ hw181_0;first | rwa [add_block] at this | exact this) GW183.out))) _).trans (((cell_far (p:=⟨gb183,_,none⟩) (by first | exact nN_ (nL_ (by have:=wL_ _ _ hw181_0;first | rwa [add_block] at this | exact this) GW183.out) | (rw [add_block];exact nN_ (nL_ (by have:=wL_ _ _ hw181_0;first | rwa [add_block] at this | exact this) GW183.out)) | (show (Addr.add _ _).block ≠ _;rw [add_block];exact nN_ (nL_ (by have:=wL_ _ _ hw181_0;first | rwa [add_block] at this | exact this) GW183.out)) | (dsimp only;exact nN_ (nL_ (by have:=wL_ _ _ hw181_0;first | rwa [add_block] at this | exact this) GW183.out))) _).trans (((cell_far (p:=⟨gb183,_,none⟩) (by first | exact nN_ (nL_ (by have:=wL_ _ _ hw181_0;first | rwa [add_block] at this | exact this) GW183.out) | (rw [add_block];exact nN_ (nL_ (by have:=wL_ _ _ hw181_0;first | rwa [add_block] at this | exact this) GW183.out)) | (show (Addr.add _ _).block ≠ _;rw [add_block];exact nN_ (nL_ (by have:=wL_ _ _ hw181_0;first | rwa [add_block] at this | exact this) GW183.out)) | (dsimp only;exact nN_ (nL_ (by have:=wL_ _ _ hw181_0;first | rwa [add_block] at this | exact this) GW183.out))) _).trans (hHeld.2.2.2.2.2.2.2.2.2.2.2.1)))))),((cell_far (p:=⟨gb183,_,none⟩) (by first | exact nN_ (nL_ (by have:=wL_ _ _ hw181_1;first | rwa [add_block] at this | exact this) GW183.out) | (rw [add_block];exact nN_ (nL_ (by have:=wL_ _ _ hw181_1;first | rwa [add_block] at this | exact this) GW183.out)) | (show (Addr.add _ _).block ≠ _;rw [add_block];exact nN_ (nL_ (by have:=wL_ _ _ hw181_1;first | rwa [add_block] at this | exact this) GW183.out)) | (dsimp only;exact nN_ (nL_ (by have:=wL_ _ _ hw181_1;first | rwa [add_block] at this | exact this) GW183.out))) _).trans (((cell_far (p:=⟨gb183,_,none⟩) (by first | exact nN_ (nL_ (by have:=wL_ _ _ hw181_1;first | rwa [add_block] at this | exact this) GW183.out) | (rw [add_block];exact nN_ (nL_ (by have:=wL_ _ _ hw181_1;first | rwa [add_block] at this | exact this) GW183.out)) | (show (Addr.add _ _).block ≠ _;rw [add_block];exact nN_ (nL_ (by have:=wL_ _ _ hw181_1;first | rwa [add_block] at this | exact this) GW183.out)) | (dsimp only;exact nN_ (nL_ (by have:=wL_ _ _ hw181_1;first | rwa [add_block] at this | exact this) GW183.out))) _).trans (((cell_far (p:=⟨gb183,_,none⟩) (by first | exact nN_ (nL_ (by have:=wL_ _ _ hw181_1;first | rwa [add_block] at this | exact this) GW183.out) | (rw [add_block];exact nN_ (nL_ (by have:=wL_ _ _ hw181_1;first | rwa [add_block] at this | exact this) GW183.out)) | (show (Addr.add _ _).block ≠ _;rw [add_block];exact nN_ (nL_ (by have:=wL_ _ _ hw181_1;first | rwa [add_block] at this | exact this) GW183.out)) | (dsimp only;exact nN_ (nL_ (by have:=wL_ _ _ hw181_1;first | rwa [add_block] at this | exact this) GW183.out))) _).trans (hHeld.2.2.2.2.2.2.2.2.2.2.2.2.1)))))),((cell_far (p:=⟨gb183,_,none⟩) (by first | exact nN_ (nL_ (by have:=wL_ _ _ hw181_2;first | rwa [add_block] at this | exact this) GW183.out) | (rw [add_block];exact nN_ (nL_ (by have:=wL_ _ _ hw181_2;first | rwa [add_block] at this | exact this) GW183.out)) | (show (Addr.add _ _).block ≠ _;rw [add_block];exact nN_ (nL_ (by have:=wL_ _ _ hw181_2;first | rwa [add_block] at this | exact this) GW183.out)) | (dsimp only;exact nN_ (nL_ (by have:=wL_ _ _ hw181_2;first | rwa [add_block] at this | exact this) GW183.out))) _).trans (((cell_far (p:=⟨gb183,_,none⟩) (by first | exact nN_ (nL_ (by have:=wL_ _ _ hw181_2;first | rwa [add_block] at this | exact this) GW183.out) | (rw [add_block];exact nN_ (nL_ (by have:=wL_ _ _ hw181_2;first | rwa [add_block] at this | exact this) GW183.out)) | (show (Addr.add _ _).block ≠ _;rw [add_block];exact nN_ (nL_ (by have:=wL_ _ _ hw181_2;first | rwa [add_block] at this | exact this) GW183.out)) | (dsimp only;exact nN_ (nL_ (by have:=wL_ _ _ hw181_2;first | rwa [add_block] at this | exact this) GW183.out))) _).trans (((cell_far (p:=⟨gb183,_,none⟩) (by first | exact nN_ (nL_ (by have:=wL_ _ _ hw181_2;first | rwa [add_block] at this | exact this) GW183.out) | (rw [add_block];exact nN_ (nL_ (by have:=wL_ _ _ hw181_2;first | rwa [add_block] at this | exact this) GW183.out)) | (show (Addr.add _ _).block ≠ _;rw [add_block];exact nN_ (nL_ (by have:=wL_ _ _ hw181_2;first | rwa [add_block] at this | exact this) GW183.out)) | (dsimp only;exact nN_ (nL_ (by have:=wL_ _ _ hw181_2;first | rwa [add_block] at this | exact this) GW183.out))) _).trans (hHeld.2.2.2.2.2.2.2.2.2.2.2.2.2))))))⟩ (fun hHeld=>?_)
                clear hK K
                refine done_ (done_of HT_.out (by kernel_rfl)) ?_
                have hnb69:=NB182_175.out
                have hnc69:=NB175_182.out
                have hnb70:=NB182_176.out
                have hnc70:=NB176_182.out
                have hnb71:=NB182_183.out
                have hnc71:=NB183_182.out
                have hcz72_0 : w62.cell? ⟨gb182,0,none⟩ = some (.string (⟨#[]⟩ : ByteArray)):=(kC_ BK182.out 0).trans rfl
                have hcz72_1 : w62.cell? ⟨gb182,1,none⟩ = some (.bool false):=(kC_ BK182.out 1).trans rfl
                have hcz72_2 : w62.cell? ⟨gb182,2,none⟩ = some (.slice none 0 0):=(kC_ BK182.out 2).trans rfl
                have hfz72_0:=kF_ BK182.out 0
                have hfz72_1:=kF_ BK182.out 1
                have hfz72_2:=kF_ BK182.out 2
                have hnb73:=NB183_175.out
                have hnc73:=NB175_183.out
                have hnb74:=NB183_176.out
                have hnc74:=NB176_183.out
                have hcz75_0 : w62.cell? ⟨gb183,0,none⟩ = some (.string (⟨#[]⟩ : ByteArray)):=(kC_ BK183.out 0).trans rfl
                have hcz75_1 : w62.cell? ⟨gb183,1,none⟩ = some (.bool false):=(kC_ BK183.out 1).trans rfl
                have hcz75_2 : w62.cell? ⟨gb183,2,none⟩ = some (.slice none 0 0):=(kC_ BK183.out 2).trans rfl
                have hfz75_0:=kF_ BK183.out 0
                have hfz75_1:=kF_ BK183.out 1
                have hfz75_2:=kF_ BK183.out 2
                try go_wp2_with (first | (go_at_call 140;(with_reducible refine (impl_sameParts.calls k3 _ _ ((rd_T148 l0_3 x61_3).f2) _ _ ((rd_T148 l1_3 x61_3).f2) true _ ?side1 ?side2 ?side3 ?side4 A57.out).mono ?_);(case side1=>exact Kd.C_below HR180_2.out (by exact bZ_ HB));(case side2=>exact HC180_2.out);(case side3=>exact Kd.C_below HR181_2.out (by exact bZ_ HB));(case side4=>exact HC181_2.out);rintro e w' ⟨rfl,⟨nd,rfl⟩⟩))
                go_roundg k3
                case measure=>have:=HJ2.out;have:=HK2.out;have:=HK3.out;omega
                case rel=>exact ⟨(wrap64 (x61_3 + 1)),(by first | rfl | (simp;done) | (simp [*];done)),H', ⟨by have:=HJ2.out;have:=HK2.out;have:=HK3.out;omega⟩,⟨by exact kW_ BK175⟩,⟨by exact kW_ BK176⟩,⟨by exact bZ_ HB⟩⟩
               ·replace c58:=Bool.eq_false_iff.mpr c58
                subst c58
                have H1 : (some false) = some r:=by rw [if_neg (show ¬ (false = true) by decide)] at H;exact H
                clear H
                have H:=H1
                clear H1
                obtain rfl:=Option.some.inj H
                try go_wp2
                have n0_:=aM_ (kD_ BK175.out)
                have n1_:=aM_ (kD_ BK176.out)
                have n2_:=aM_ (bD_ HB.out)
                clear BK175 BK176 HB
                have BK175:=n0_
                have BK176:=n1_
                have HB:=n2_
                clear n0_ n1_ n2_
                have p180 : 0 ≤ (x61_3 : Int):=oT_ (by first | (with_reducible assumption) | assumption)
                have q180 : x61_3 < (l0_3.length : Int):=oT_ (by first | (with_reducible assumption) | assumption)
                obtain ⟨ad180,A180_2,c180_2,e180,hx180_0,hx180_1,hx180_2,hl180_2,hi180_2⟩:=at_T148 HR0_3.out x61_3 p180 q180
                have hw180_2:=hx180_2
                have hw180_1:=hx180_1
                have hw180_0:=hx180_0
                cases e180
                replace hx180_0:=(HB.out.cell (wL_ w _ hx180_0)).trans hx180_0
                replace hx180_1:=(HB.out.cell (wL_ w _ hx180_1)).trans hx180_1
                replace hx180_2:=(HB.out.cell (wL_ w _ hx180_2)).trans hx180_2
                have HR180_2:=aM_ hi180_2
                have HC180_2:=aM_ hl180_2
                clear hi180_2 hl180_2
                replace p180:=eq_true p180
                replace q180:=eq_true q180
                have p181 : 0 ≤ (x61_3 : Int):=oT_ (by first | (with_reducible assumption) | assumption)
                have q181 : x61_3 < (l1_3.length : Int):=oT_ (by first | (with_reducible assumption) | assumption)
                obtain ⟨ad181,A181_2,c181_2,e181,hx181_0,hx181_1,hx181_2,hl181_2,hi181_2⟩:=at_T148 HR1_3.out x61_3 p181 q181
                have hw181_2:=hx181_2
                have hw181_1:=hx181_1
                have hw181_0:=hx181_0
                cases e181
                replace hx181_0:=(HB.out.cell (wL_ w _ hx181_0)).trans hx181_0
                replace hx181_1:=(HB.out.cell (wL_ w _ hx181_1)).trans hx181_1
                replace hx181_2:=(HB.out.cell (wL_ w _ hx181_2)).trans hx181_2
                have HR181_2:=aM_ hi181_2
                have HC181_2:=aM_ hl181_2
                clear hi181_2 hl181_2
                replace p181:=eq_true p181
                replace q181:=eq_true q181
                refine start_ (n:=14) (S:=fun w'=>w'.cell? ⟨gb175,0,none⟩ = some (.string a0_0) ∧ w'.cell? ⟨gb175,1,none⟩ = some (.slice A0_1 l0_1.length c0_1) ∧ w'.cell? ⟨gb175,2,none⟩ = some (.slice A0_2 l0_2.length c0_2) ∧ w'.cell? ⟨gb175,3,none⟩ = some (.slice (some ad180) l0_3.length c0_3) ∧ w'.cell? ⟨gb176,0,none⟩ = some (.string a1_0) ∧ w'.cell? ⟨gb176,1,none⟩ = some (.slice A1_1 l1_1.length c1_1) ∧ w'.cell? ⟨gb176,2,none⟩ = some (.slice A1_2 l1_2.length c1_2) ∧ w'.cell? ⟨gb176,3,none⟩ = some (.slice (some ad181) l1_3.length c1_3) ∧ w'.cell? (ad180.add ((x61_3).toNat * 3)) = some (.string ((rd_T148 l0_3 x61_3).f0)) ∧ w'.cell? ⟨(ad180.add ((x61_3).toNat * 3)).block,(ad180.add ((x61_3).toNat * 3)).off + 1,none⟩ = some (.bool ((rd_T148 l0_3 x61_3).f1)) ∧ w'.cell? ⟨(ad180.add ((x61_3).toNat * 3)).block,(ad180.add ((x61_3).toNat * 3)).off + 2,none⟩ = some (.slice A180_2 ((rd_T148 l0_3 x61_3).f2).length c180_2) ∧ w'.cell? (ad181.add ((x61_3).toNat * 3)) = some (.string ((rd_T148 l1_3 x61_3).f0)) ∧ w'.cell? ⟨(ad181.add ((x61_3).toNat * 3)).block,(ad181.add ((x61_3).toNat * 3)).off + 1,none⟩ = some (.bool ((rd_T148 l1_3 x61_3).f1)) ∧ w'.cell? ⟨(ad181.add ((x61_3).toNat * 3)).block,(ad181.add ((x61_3).toNat * 3)).off + 2,none⟩ = some (.slice A181_2 ((rd_T148 l1_3 x61_3).f2).length c181_2)) (ds:=[]) (tb_ 0 14) (by kernel_rfl) rfl rfl ⟨(kC_ BK175.out 0).trans rfl,(kC_ BK175.out 1).trans rfl,(kC_ BK175.out 2).trans rfl,(kC_ BK175.out 3).trans rfl,(kC_ BK176.out 0).trans rfl,(kC_ BK176.out 1).trans rfl,(kC_ BK176.out 2).trans rfl,(kC_ BK176.out 3).trans rfl,((HB.out.cell (wL_ w _ hw180_0)).trans hw180_0),((HB.out.cell (wL_ w _ hw180_1)).trans hw180_1),((HB.out.cell (wL_ w _ hw180_2)).trans hw180_2),((HB.out.cell (wL_ w _ hw181_0)).trans hw181_0),((HB.out.cell (wL_ w _ hw181_1)).trans hw181_1),((HB.out.cell (wL_ w _ hw181_2)).trans hw181_2)⟩ (fun hHeld=>?_);refine with_tabW impl_SameDef.tab12 impl_SameDef.bits12 (fun HT_ HW_=>?_)
                generalize wr.drew = w76 at BK175 BK176 HB HR180_2 HR181_2 hx180_0 hx180_1 hx180_2 hx181_0 hx181_1 hx181_2 hHeld ⊢
                refine pure_ (i:=0) (N:=some 64) (v:=?_) (a':=?_) (tb_ 1 13) rfl rfl (any_of HT_.out (by kernel_rfl)) (fun _ _ _ h=>h) (Or.inl ⟨by rfl,?_⟩) ?_ ?_
                rotate_left
                ·intro w'
                 go_simp
                 with_reducible rfl
                rotate_left
                ·simp only [Act.put,sI_,sZ_,sS_,i64_w,i32_w]
                 rfl
                refine pure_ (i:=2) (N:=some 66) (v:=?_) (a':=?_) #[true,false,true,false,false,false,false,false,false,false,false,false,false,false] rfl rfl (any_of HT_.out (by kernel_rfl)) (fun _ _ _ h=>h) (Or.inl ⟨by rfl,?_⟩) ?_ ?_
                rotate_left
                ·intro w'
                 go_simp
                 with_reducible rfl
                rotate_left
                ·simp only [Act.put,sI_,sZ_,sS_,i64_w,i32_w]
                 rfl
                refine pure_ (i:=5) (N:=some 69) (v:=?_) (a':=?_) #[true,false,true,false,false,true,false,false,false,false,false,false,false,false] rfl rfl (any_of HT_.out (by kernel_rfl)) (fun _ _ _ h=>h) (Or.inl ⟨by rfl,?_⟩) ?_ ?_
                rotate_left
                ·intro w'
                 go_simp
                 with_reducible rfl
                rotate_left
                ·simp only [Act.put,sI_,sZ_,sS_,i64_w,i32_w]
                 rfl
                refine pure_ (i:=7) (N:=some 71) (v:=?_) (a':=?_) #[true,false,true,false,false,true,false,true,false,false,false,false,false,false] rfl rfl (any_of HT_.out (by kernel_rfl)) (fun _ _ _ h=>h) (Or.inl ⟨by rfl,?_⟩) ?_ ?_
                rotate_left
                ·intro w'
                 go_simp
                 with_reducible rfl
                rotate_left
                ·simp only [Act.put,sI_,sZ_,sS_,i64_w,i32_w]
                 rfl
                refine take_ (i:=1) (N:=some 65) (v:=?_) (a':=?_) #[true,true,true,false,false,true,false,true,false,false,false,false,false,false] rfl rfl (take_ofW HT_.out HW_.out (by kernel_rfl)) (fun _ _ _ h=>h) (Or.inl ⟨by rfl,?_⟩) hHeld ?_ ?_
                rotate_left
                ·rintro w' ⟨s0,s1,s2,s3,s4,s5,s6,s7,s8,s9,s10,s11,s12,s13⟩
                 go_simp
                 with_reducible rfl
                rotate_left
                ·simp only [Act.put,sI_,sZ_,sS_,i64_w,i32_w]
                 rfl
                refine pure_ (i:=3) (N:=some 67) (v:=?_) (a':=?_) #[true,true,true,true,false,true,false,true,false,false,false,false,false,false] rfl rfl (any_of HT_.out (by kernel_rfl)) (fun _ _ _ h=>h) (Or.inl ⟨by rfl,?_⟩) ?_ ?_
                rotate_left
                ·intro w'
                 go_simp
                 with_reducible rfl
                rotate_left
                ·simp only [Act.put,sI_,sZ_,sS_,i64_w,i32_w]
                 rfl
                refine take_ (i:=4) (N:=some 68) (v:=?_) (a':=?_) #[true,true,true,true,true,true,false,true,false,false,false,false,false,false] rfl rfl (take_ofW HT_.out HW_.out (by kernel_rfl)) (fun _ _ _ h=>h) (Or.inl ⟨by rfl,?_⟩) hHeld ?_ ?_
                rotate_left
                ·rintro w' ⟨s0,s1,s2,s3,s4,s5,s6,s7,s8,s9,s10,s11,s12,s13⟩
                 go_simp
                 with_reducible rfl
                rotate_left
                ·simp only [Act.put,sI_,sZ_,sS_,i64_w,i32_w]
                 rfl
                refine take_ (i:=6) (N:=some 70) (v:=?_) (a':=?_) (tb_ 8 6) rfl rfl (take_ofW HT_.out HW_.out (by kernel_rfl)) (fun _ _ _ h=>h) (Or.inl ⟨by rfl,?_⟩) hHeld ?_ ?_
                rotate_left
                ·rintro w' ⟨s0,s1,s2,s3,s4,s5,s6,s7,s8,s9,s10,s11,s12,s13⟩
                 go_simp
                 with_reducible rfl
                rotate_left
                ·simp only [Act.put,sI_,sZ_,sS_,i64_w,i32_w]
                 rfl
                refine pure_ (i:=8) (N:=some 72) (v:=?_) (a':=?_) (tb_ 9 5) rfl rfl (any_of HT_.out (by kernel_rfl)) (fun _ _ _ h=>h) (Or.inl ⟨by rfl,?_⟩) ?_ ?_
                rotate_left
                ·intro w'
                 go_simp
                 with_reducible rfl
                rotate_left
                ·simp only [Act.put,sI_,sZ_,sS_,i64_w,i32_w]
                 rfl
                refine take_ (i:=9) (N:=some 73) (v:=?_) (a':=?_) (tb_ 10 4) rfl rfl (take_ofW HT_.out HW_.out (by kernel_rfl)) (fun _ _ _ h=>h) (Or.inl ⟨by rfl,?_⟩) hHeld ?_ ?_
                rotate_left
                ·rintro w' ⟨s0,s1,s2,s3,s4,s5,s6,s7,s8,s9,s10,s11,s12,s13⟩
                 go_simp
                 with_reducible rfl
                rotate_left
                ·simp only [Act.put,sI_,sZ_,sS_,i64_w,i32_w]
                 rfl
                refine join_ (σ:=Nat × Nat) 2 (tb_ 12 2) (fun s_=>[(7,.pointer (some ⟨s_.1,0,none⟩)),(8,.pointer (some ⟨s_.2,0,none⟩))]) (fun s_ w'=>(w'.cell? ⟨gb175,0,none⟩ = some (.string a0_0) ∧ w'.cell? ⟨gb175,1,none⟩ = some (.slice A0_1 l0_1.length c0_1) ∧ w'.cell? ⟨gb175,2,none⟩ = some (.slice A0_2 l0_2.length c0_2) ∧ w'.cell? ⟨gb175,3,none⟩ = some (.slice (some ad180) l0_3.length c0_3) ∧ w'.cell? ⟨gb176,0,none⟩ = some (.string a1_0) ∧ w'.cell? ⟨gb176,1,none⟩ = some (.slice A1_1 l1_1.length c1_1) ∧ w'.cell? ⟨gb176,2,none⟩ = some (.slice A1_2 l1_2.length c1_2) ∧ w'.cell? ⟨gb176,3,none⟩ = some (.slice (some ad181) l1_3.length c1_3) ∧ w'.cell? (ad180.add ((x61_3).toNat * 3)) = some (.string ((rd_T148 l0_3 x61_3).f0)) ∧ w'.cell? ⟨(ad180.add ((x61_3).toNat * 3)).block,(ad180.add ((x61_3).toNat * 3)).off + 1,none⟩ = some (.bool ((rd_T148 l0_3 x61_3).f1)) ∧ w'.cell? ⟨(ad180.add ((x61_3).toNat * 3)).block,(ad180.add ((x61_3).toNat * 3)).off + 2,none⟩ = some (.slice A180_2 ((rd_T148 l0_3 x61_3).f2).length c180_2) ∧ w'.cell? (ad181.add ((x61_3).toNat * 3)) = some (.string ((rd_T148 l1_3 x61_3).f0)) ∧ w'.cell? ⟨(ad181.add ((x61_3).toNat * 3)).block,(ad181.add ((x61_3).toNat * 3)).off + 1,none⟩ = some (.bool ((rd_T148 l1_3 x61_3).f1)) ∧ w'.cell? ⟨(ad181.add ((x61_3).toNat * 3)).block,(ad181.add ((x61_3).toNat * 3)).off + 2,none⟩ = some (.slice A181_2 ((rd_T148 l1_3 x61_3).f2).length c181_2)) ∧ (w'.heap[gb175]? = some (.cells #[.string a0_0,.slice A0_1 l0_1.length c0_1,.slice A0_2 l0_2.length c0_2,.slice (some ad180) l0_3.length c0_3] 87 (0,0))) ∧ (w'.heap[gb176]? = some (.cells #[.string a1_0,.slice A1_1 l1_1.length c1_1,.slice A1_2 l1_2.length c1_2,.slice (some ad181) l1_3.length c1_3] 87 (0,0))) ∧ (w'.heap[s_.1]? = some (.cells #[.string (⟨#[]⟩ : ByteArray),.bool false,.slice none 0 0] 148 (0,0))) ∧ (w'.heap[s_.2]? = some (.cells #[.string (⟨#[]⟩ : ByteArray),.bool false,.slice none 0 0] 148 (0,0))) ∧ (w.heap.size ≤ s_.1) ∧ (w.heap.size ≤ s_.1) ∧ (gb175 ≠ s_.1) ∧ (s_.1 ≠ gb175) ∧ (gb176 ≠ s_.1) ∧ (s_.1 ≠ gb176) ∧ (s_.2 ≠ s_.1) ∧ (s_.1 ≠ s_.2) ∧ (w.heap.size ≤ s_.2) ∧ (w.heap.size ≤ s_.2) ∧ (gb175 ≠ s_.2) ∧ (s_.2 ≠ gb175) ∧ (gb176 ≠ s_.2) ∧ (s_.2 ≠ gb176) ∧ (Below w.heap.size w w')) ?_ ?_
                rotate_left
                ·intro hCont
                 refine two_ (i:=10) (j:=11) (Ni:=some 7) (Nj:=some 8) (tb_ 11 3) #[true,true,true,true,true,true,true,true,true,true,false,true,false,false] rfl rfl rfl rfl (two_of HT_.out (by kernel_rfl)) (by decide) (by decide) (fun K hK=>?_) (fun K hK=>?_)
                 ·skip
                  refine box_step ?hg (N:=7) ?hd (cs:=#[.string (⟨#[]⟩ : ByteArray),.bool false,.slice none 0 0]) (t:=148) ?hr ?_;(case hd=>rfl);(case hg=>rfl);(case hr=>first | (go_simp;done) | (go_simp;rfl))
                  intro gb182 hg w77 hbox hb
                  have n0_:=aM_ (blk_below (g:=gb175) (o:=.cells #[.string a0_0,.slice A0_1 l0_1.length c0_1,.slice A0_2 l0_2.length c0_2,.slice (some ad180) l0_3.length c0_3] 87 (0,0)) (by exact kZ_ BK175) hb)
                  have n1_:=aM_ (blk_below (g:=gb176) (o:=.cells #[.string a1_0,.slice A1_1 l1_1.length c1_1,.slice A1_2 l1_2.length c1_2,.slice (some ad181) l1_3.length c1_3] 87 (0,0)) (by exact kZ_ BK176) hb)
                  have n2_:=aM_ (bT_ (by exact bZ_ HB) hb)
                  have n3_:=aM_ (hbox)
                  have n4_:=aM_ ((by rw [hg];exact (bS_ (by exact bZ_ HB)) : w.heap.size ≤ gb182))
                  have n5_:=aM_ ((by rw [hg];exact (bS_ (by exact bZ_ HB)) : w.heap.size ≤ gb182))
                  have n6_:=aM_ ((by rw [hg];exact nN_ (blk_lt (g:=gb175) (o:=.cells #[.string a0_0,.slice A0_1 l0_1.length c0_1,.slice A0_2 l0_2.length c0_2,.slice (some ad180) l0_3.length c0_3] 87 (0,0)) (by exact kZ_ BK175)) : gb175 ≠ gb182))
                  have n7_:=aM_ ((by rw [hg];exact Nat.ne_of_gt (blk_lt (g:=gb175) (o:=.cells #[.string a0_0,.slice A0_1 l0_1.length c0_1,.slice A0_2 l0_2.length c0_2,.slice (some ad180) l0_3.length c0_3] 87 (0,0)) (by exact kZ_ BK175)) : gb182 ≠ gb175))
                  have n8_:=aM_ ((by rw [hg];exact nN_ (blk_lt (g:=gb176) (o:=.cells #[.string a1_0,.slice A1_1 l1_1.length c1_1,.slice A1_2 l1_2.length c1_2,.slice (some ad181) l1_3.length c1_3] 87 (0,0)) (by exact kZ_ BK176)) : gb176 ≠ gb182))
                  have n9_:=aM_ ((by rw [hg];exact Nat.ne_of_gt (blk_lt (g:=gb176) (o:=.cells #[.string a1_0,.slice A1_1 l1_1.length c1_1,.slice A1_2 l1_2.length c1_2,.slice (some ad181) l1_3.length c1_3] 87 (0,0)) (by exact kZ_ BK176)) : gb182 ≠ gb176))
                  clear BK175 BK176 HB
                  have BK175:=n0_
                  have BK176:=n1_
                  have HB:=n2_
                  have BK182:=n3_
                  have GW182:=n4_
                  have GE182:=n5_
                  have NB175_182:=n6_
                  have NB182_175:=n7_
                  have NB176_182:=n8_
                  have NB182_176:=n9_
                  clear n0_ n1_ n2_ n3_ n4_ n5_ n6_ n7_ n8_ n9_ hb hbox hg
                  refine hK.out _ _ ⟨(kC_ BK175.out 0).trans rfl,(kC_ BK175.out 1).trans rfl,(kC_ BK175.out 2).trans rfl,(kC_ BK175.out 3).trans rfl,(kC_ BK176.out 0).trans rfl,(kC_ BK176.out 1).trans rfl,(kC_ BK176.out 2).trans rfl,(kC_ BK176.out 3).trans rfl,((HB.out.cell (wL_ w _ hw180_0)).trans hw180_0),((HB.out.cell (wL_ w _ hw180_1)).trans hw180_1),((HB.out.cell (wL_ w _ hw180_2)).trans hw180_2),((HB.out.cell (wL_ w _ hw181_0)).trans hw181_0),((HB.out.cell (wL_ w _ hw181_1)).trans hw181_1),((HB.out.cell (wL_ w _ hw181_2)).trans hw181_2)⟩ (fun hHeld=>?_)
                  clear hK K
                  refine norm_ (a':=?_) ?_ ?_
                  rotate_left
                  ·show Act.put _ (some 7) _ = _
                   simp only [Act.put,sI_,sZ_,sS_,i64_w,i32_w]
                   rfl
                  refine one_ (i:=11) (N:=some 8) (tb_ 12 2) rfl rfl (one_of HT_.out (by kernel_rfl)) (by decide) (fun K hK=>?_)
                  refine box_step ?hg (N:=8) ?hd (cs:=#[.string (⟨#[]⟩ : ByteArray),.bool false,.slice none 0 0]) (t:=148) ?hr ?_;(case hd=>rfl);(case hg=>rfl);(case hr=>first | (go_simp;done) | (go_simp;rfl))
                  intro gb183 hg w78 hbox hb
                  have n0_:=aM_ (blk_below (g:=gb175) (o:=.cells #[.string a0_0,.slice A0_1 l0_1.length c0_1,.slice A0_2 l0_2.length c0_2,.slice (some ad180) l0_3.length c0_3] 87 (0,0)) (by exact kZ_ BK175) hb)
                  have n1_:=aM_ (blk_below (g:=gb176) (o:=.cells #[.string a1_0,.slice A1_1 l1_1.length c1_1,.slice A1_2 l1_2.length c1_2,.slice (some ad181) l1_3.length c1_3] 87 (0,0)) (by exact kZ_ BK176) hb)
                  have n2_:=aM_ (blk_below (g:=gb182) (o:=.cells #[.string (⟨#[]⟩ : ByteArray),.bool false,.slice none 0 0] 148 (0,0)) (by exact kZ_ BK182) hb)
                  have n3_:=aM_ (bT_ (by exact bZ_ HB) hb)
                  have n4_:=aM_ (hbox)
                  have n5_:=aM_ ((by rw [hg];exact (bS_ (by exact bZ_ HB)) : w.heap.size ≤ gb183))
                  have n6_:=aM_ ((by rw [hg];exact (bS_ (by exact bZ_ HB)) : w.heap.size ≤ gb183))
                  have n7_:=aM_ ((by rw [hg];exact nN_ (blk_lt (g:=gb175) (o:=.cells #[.string a0_0,.slice A0_1 l0_1.length c0_1,.slice A0_2 l0_2.length c0_2,.slice (some ad180) l0_3.length c0_3] 87 (0,0)) (by exact kZ_ BK175)) : gb175 ≠ gb183))
                  have n8_:=aM_ ((by rw [hg];exact Nat.ne_of_gt (blk_lt (g:=gb175) (o:=.cells #[.string a0_0,.slice A0_1 l0_1.length c0_1,.slice A0_2 l0_2.length c0_2,.slice (some ad180) l0_3.length c0_3] 87 (0,0)) (by exact kZ_ BK175)) : gb183 ≠ gb175))
                  have n9_:=aM_ ((by rw [hg];exact nN_ (blk_lt (g:=gb176) (o:=.cells #[.string a1_0,.slice A1_1 l1_1.length c1_1,.slice A1_2 l1_2.length c1_2,.slice (some ad181) l1_3.length c1_3] 87 (0,0)) (by exact kZ_ BK176)) : gb176 ≠ gb183))
                  have n10_:=aM_ ((by rw [hg];exact Nat.ne_of_gt (blk_lt (g:=gb176) (o:=.cells #[.string a1_0,.slice A1_1 l1_1.length c1_1,.slice A1_2 l1_2.length c1_2,.slice (some ad181) l1_3.length c1_3] 87 (0,0)) (by exact kZ_ BK176)) : gb183 ≠ gb176))
                  have n11_:=aM_ ((by rw [hg];exact nN_ (blk_lt (g:=gb182) (o:=.cells #[.string (⟨#[]⟩ : ByteArray),.bool false,.slice none 0 0] 148 (0,0)) (by exact kZ_ BK182)) : gb182 ≠ gb183))
                  have n12_:=aM_ ((by rw [hg];exact Nat.ne_of_gt (blk_lt (g:=gb182) (o:=.cells #[.string (⟨#[]⟩ : ByteArray),.bool false,.slice none 0 0] 148 (0,0)) (by exact kZ_ BK182)) : gb183 ≠ gb182))
                  clear BK175 BK176 BK182 HB
                  have BK175:=n0_
                  have BK176:=n1_
                  have BK182:=n2_
                  have HB:=n3_
                  have BK183:=n4_
                  have GW183:=n5_
                  have GE183:=n6_
                  have NB175_183:=n7_
                  have NB183_175:=n8_
                  have NB176_183:=n9_
                  have NB183_176:=n10_
                  have NB182_183:=n11_
                  have NB183_182:=n12_
                  clear n0_ n1_ n2_ n3_ n4_ n5_ n6_ n7_ n8_ n9_ n10_ n11_ n12_ hb hbox hg
                  refine hK.out _ _ ⟨(kC_ BK175.out 0).trans rfl,(kC_ BK175.out 1).trans rfl,(kC_ BK175.out 2).trans rfl,(kC_ BK175.out 3).trans rfl,(kC_ BK176.out 0).trans rfl,(kC_ BK176.out 1).trans rfl,(kC_ BK176.out 2).trans rfl,(kC_ BK176.out 3).trans rfl,((HB.out.cell (wL_ w _ hw180_0)).trans hw180_0),((HB.out.cell (wL_ w _ hw180_1)).trans hw180_1),((HB.out.cell (wL_ w _ hw180_2)).trans hw180_2),((HB.out.cell (wL_ w _ hw181_0)).trans hw181_0),((HB.out.cell (wL_ w _ hw181_1)).trans hw181_1),((HB.out.cell (wL_ w _ hw181_2)).trans hw181_2)⟩ (fun hHeld=>?_)
                  clear hK K
                  refine norm_ (a':=?_) ?_ ?_
                  rotate_left
                  ·show Act.put _ (some 8) _ = _
                   simp only [Act.put,sI_,sZ_,sS_,i64_w,i32_w]
                   rfl
                  exact norm_ (by simp only [putAll,Act.put,sI_,sZ_,sS_]) (hCont (gb182,gb183) _ ⟨hHeld,(by exact kZ_ BK175),(by exact kZ_ BK176),(by exact kZ_ BK182),(by exact kZ_ BK183),GW182.out,GE182.out,NB175_182.out,NB182_175.out,NB176_182.out,NB182_176.out,NB183_182.out,NB182_183.out,GW183.out,GE183.out,NB175_183.out,NB183_175.out,NB176_183.out,NB183_176.out,(by exact bZ_ HB)⟩)
                 ·skip
                  refine box_step ?hg (N:=8) ?hd (cs:=#[.string (⟨#[]⟩ : ByteArray),.bool false,.slice none 0 0]) (t:=148) ?hr ?_;(case hd=>rfl);(case hg=>rfl);(case hr=>first | (go_simp;done) | (go_simp;rfl))
                  intro gb183 hg w77 hbox hb
                  have n0_:=aM_ (blk_below (g:=gb175) (o:=.cells #[.string a0_0,.slice A0_1 l0_1.length c0_1,.slice A0_2 l0_2.length c0_2,.slice (some ad180) l0_3.length c0_3] 87 (0,0)) (by exact kZ_ BK175) hb)
                  have n1_:=aM_ (blk_below (g:=gb176) (o:=.cells #[.string a1_0,.slice A1_1 l1_1.length c1_1,.slice A1_2 l1_2.length c1_2,.slice (some ad181) l1_3.length c1_3] 87 (0,0)) (by exact kZ_ BK176) hb)
                  have n2_:=aM_ (bT_ (by exact bZ_ HB) hb)
                  have n3_:=aM_ (hbox)
                  have n4_:=aM_ ((by rw [hg];exact (bS_ (by exact bZ_ HB)) : w.heap.size ≤ gb183))
                  have n5_:=aM_ ((by rw [hg];exact (bS_ (by exact bZ_ HB)) : w.heap.size ≤ gb183))
                  have n6_:=aM_ ((by rw [hg];exact nN_ (blk_lt (g:=gb175) (o:=.cells #[.string a0_0,.slice A0_1 l0_1.length c0_1,.slice A0_2 l0_2.length c0_2,.slice (some ad180) l0_3.length c0_3] 87 (0,0)) (by exact kZ_ BK175)) : gb175 ≠ gb183))
                  have n7_:=aM_ ((by rw [hg];exact Nat.ne_of_gt (blk_lt (g:=gb175) (o:=.cells #[.string a0_0,.slice A0_1 l0_1.length c0_1,.slice A0_2 l0_2.length c0_2,.slice (some ad180) l0_3.length c0_3] 87 (0,0)) (by exact kZ_ BK175)) : gb183 ≠ gb175))
                  have n8_:=aM_ ((by rw [hg];exact nN_ (blk_lt (g:=gb176) (o:=.cells #[.string a1_0,.slice A1_1 l1_1.length c1_1,.slice A1_2 l1_2.length c1_2,.slice (some ad181) l1_3.length c1_3] 87 (0,0)) (by exact kZ_ BK176)) : gb176 ≠ gb183))
                  have n9_:=aM_ ((by rw [hg];exact Nat.ne_of_gt (blk_lt (g:=gb176) (o:=.cells #[.string a1_0,.slice A1_1 l1_1.length c1_1,.slice A1_2 l1_2.length c1_2,.slice (some ad181) l1_3.length c1_3] 87 (0,0)) (by exact kZ_ BK176)) : gb183 ≠ gb176))
                  clear BK175 BK176 HB
                  have BK175:=n0_
                  have BK176:=n1_
                  have HB:=n2_
                  have BK183:=n3_
                  have GW183:=n4_
                  have GE183:=n5_
                  have NB175_183:=n6_
                  have NB183_175:=n7_
                  have NB176_183:=n8_
                  have NB183_176:=n9_
                  clear n0_ n1_ n2_ n3_ n4_ n5_ n6_ n7_ n8_ n9_ hb hbox hg
                  refine hK.out _ _ ⟨(kC_ BK175.out 0).trans rfl,(kC_ BK175.out 1).trans rfl,(kC_ BK175.out 2).trans rfl,(kC_ BK175.out 3).trans rfl,(kC_ BK176.out 0).trans rfl,(kC_ BK176.out 1).trans rfl,(kC_ BK176.out 2).trans rfl,(kC_ BK176.out 3).trans rfl,((HB.out.cell (wL_ w _ hw180_0)).trans hw180_0),((HB.out.cell (wL_ w _ hw180_1)).trans hw180_1),((HB.out.cell (wL_ w _ hw180_2)).trans hw180_2),((HB.out.cell (wL_ w _ hw181_0)).trans hw181_0),((HB.out.cell (wL_ w _ hw181_1)).trans hw181_1),((HB.out.cell (wL_ w _ hw181_2)).trans hw181_2)⟩ (fun hHeld=>?_)
                  clear hK K
                  refine norm_ (a':=?_) ?_ ?_
                  rotate_left
                  ·show Act.put _ (some 8) _ = _
                   simp only [Act.put,sI_,sZ_,sS_,i64_w,i32_w]
                   rfl
                  refine one_ (i:=10) (N:=some 7) (tb_ 12 2) rfl rfl (one_of HT_.out (by kernel_rfl)) (by decide) (fun K hK=>?_)
                  refine box_step ?hg (N:=7) ?hd (cs:=#[.string (⟨#[]⟩ : ByteArray),.bool false,.slice none 0 0]) (t:=148) ?hr ?_;(case hd=>rfl);(case hg=>rfl);(case hr=>first | (go_simp;done) | (go_simp;rfl))
                  intro gb182 hg w78 hbox hb
                  have n0_:=aM_ (blk_below (g:=gb175) (o:=.cells #[.string a0_0,.slice A0_1 l0_1.length c0_1,.slice A0_2 l0_2.length c0_2,.slice (some ad180) l0_3.length c0_3] 87 (0,0)) (by exact kZ_ BK175) hb)
                  have n1_:=aM_ (blk_below (g:=gb176) (o:=.cells #[.string a1_0,.slice A1_1 l1_1.length c1_1,.slice A1_2 l1_2.length c1_2,.slice (some ad181) l1_3.length c1_3] 87 (0,0)) (by exact kZ_ BK176) hb)
                  have n2_:=aM_ (blk_below (g:=gb183) (o:=.cells #[.string (⟨#[]⟩ : ByteArray),.bool false,.slice none 0 0] 148 (0,0)) (by exact kZ_ BK183) hb)
                  have n3_:=aM_ (bT_ (by exact bZ_ HB) hb)
                  have n4_:=aM_ (hbox)
                  have n5_:=aM_ ((by rw [hg];exact (bS_ (by exact bZ_ HB)) : w.heap.size ≤ gb182))
                  have n6_:=aM_ ((by rw [hg];exact (bS_ (by exact bZ_ HB)) : w.heap.size ≤ gb182))
                  have n7_:=aM_ ((by rw [hg];exact nN_ (blk_lt (g:=gb175) (o:=.cells #[.string a0_0,.slice A0_1 l0_1.length c0_1,.slice A0_2 l0_2.length c0_2,.slice (some ad180) l0_3.length c0_3] 87 (0,0)) (by exact kZ_ BK175)) : gb175 ≠ gb182))
                  have n8_:=aM_ ((by rw [hg];exact Nat.ne_of_gt (blk_lt (g:=gb175) (o:=.cells #[.string a0_0,.slice A0_1 l0_1.length c0_1,.slice A0_2 l0_2.length c0_2,.slice (some ad180) l0_3.length c0_3] 87 (0,0)) (by exact kZ_ BK175)) : gb182 ≠ gb175))
                  have n9_:=aM_ ((by rw [hg];exact nN_ (blk_lt (g:=gb176) (o:=.cells #[.string a1_0,.slice A1_1 l1_1.length c1_1,.slice A1_2 l1_2.length c1_2,.slice (some ad181) l1_3.length c1_3] 87 (0,0)) (by exact kZ_ BK176)) : gb176 ≠ gb182))
                  have n10_:=aM_ ((by rw [hg];exact Nat.ne_of_gt (blk_lt (g:=gb176) (o:=.cells #[.string a1_0,.slice A1_1 l1_1.length c1_1,.slice A1_2 l1_2.length c1_2,.slice (some ad181) l1_3.length c1_3] 87 (0,0)) (by exact kZ_ BK176)) : gb182 ≠ gb176))
                  have n11_:=aM_ ((by rw [hg];exact nN_ (blk_lt (g:=gb183) (o:=.cells #[.string (⟨#[]⟩ : ByteArray),.bool false,.slice none 0 0] 148 (0,0)) (by exact kZ_ BK183)) : gb183 ≠ gb182))
                  have n12_:=aM_ ((by rw [hg];exact Nat.ne_of_gt (blk_lt (g:=gb183) (o:=.cells #[.string (⟨#[]⟩ : ByteArray),.bool false,.slice none 0 0] 148 (0,0)) (by exact kZ_ BK183)) : gb182 ≠ gb183))
                  clear BK175 BK176 BK183 HB
                  have BK175:=n0_
                  have BK176:=n1_
                  have BK183:=n2_
                  have HB:=n3_
                  have BK182:=n4_
                  have GW182:=n5_
                  have GE182:=n6_
                  have NB175_182:=n7_
                  have NB182_175:=n8_
                  have NB176_182:=n9_
                  have NB182_176:=n10_
                  have NB183_182:=n11_
                  have NB182_183:=n12_
                  clear n0_ n1_ n2_ n3_ n4_ n5_ n6_ n7_ n8_ n9_ n10_ n11_ n12_ hb hbox hg
                  refine hK.out _ _ ⟨(kC_ BK175.out 0).trans rfl,(kC_ BK175.out 1).trans rfl,(kC_ BK175.out 2).trans rfl,(kC_ BK175.out 3).trans rfl,(kC_ BK176.out 0).trans rfl,(kC_ BK176.out 1).trans rfl,(kC_ BK176.out 2).trans rfl,(kC_ BK176.out 3).trans rfl,((HB.out.cell (wL_ w _ hw180_0)).trans hw180_0),((HB.out.cell (wL_ w _ hw180_1)).trans hw180_1),((HB.out.cell (wL_ w _ hw180_2)).trans hw180_2),((HB.out.cell (wL_ w _ hw181_0)).trans hw181_0),((HB.out.cell (wL_ w _ hw181_1)).trans hw181_1),((HB.out.cell (wL_ w _ hw181_2)).trans hw181_2)⟩ (fun hHeld=>?_)
                  clear hK K
                  refine norm_ (a':=?_) ?_ ?_
                  rotate_left
                  ·show Act.put _ (some 7) _ = _
                   simp only [Act.put,sI_,sZ_,sS_,i64_w,i32_w]
                   rfl
                  exact norm_ (by simp only [putAll,Act.put,sI_,sZ_,sS_]) (hCont (gb182,gb183) _ ⟨hHeld,(by exact kZ_ BK175),(by exact kZ_ BK176),(by exact kZ_ BK182),(by exact kZ_ BK183),GW182.out,GE182.out,NB175_182.out,NB182_175.out,NB176_182.out,NB182_176.out,NB183_182.out,NB182_183.out,GW183.out,GE183.out,NB175_183.out,NB183_175.out,NB176_183.out,NB183_176.out,(by exact bZ_ HB)⟩)
                rintro ⟨gb182,gb183⟩ w79 ⟨hS_,h0_,h1_,h2_,h3_,h4_,h5_,h6_,h7_,h8_,h9_,h10_,h11_,h12_,h13_,h14_,h15_,h16_,h17_,h18_⟩
                have n0_ : Aside0 (w79.heap[gb175]? = some (.cells #[.string a0_0,.slice A0_1 l0_1.length c0_1,.slice A0_2 l0_2.length c0_2,.slice (some ad180) l0_3.length c0_3] 87 (0,0))):=⟨h0_⟩
                have n1_ : Aside0 (w79.heap[gb176]? = some (.cells #[.string a1_0,.slice A1_1 l1_1.length c1_1,.slice A1_2 l1_2.length c1_2,.slice (some ad181) l1_3.length c1_3] 87 (0,0))):=⟨h1_⟩
                have n2_ : Aside0 (w79.heap[gb182]? = some (.cells #[.string (⟨#[]⟩ : ByteArray),.bool false,.slice none 0 0] 148 (0,0))):=⟨h2_⟩
                have n3_ : Aside0 (w79.heap[gb183]? = some (.cells #[.string (⟨#[]⟩ : ByteArray),.bool false,.slice none 0 0] 148 (0,0))):=⟨h3_⟩
                have n4_ : Aside0 (w.heap.size ≤ gb182):=⟨h4_⟩
                have n5_ : Aside0 (w.heap.size ≤ gb182):=⟨h5_⟩
                have n6_ : Aside0 (gb175 ≠ gb182):=⟨h6_⟩
                have n7_ : Aside0 (gb182 ≠ gb175):=⟨h7_⟩
                have n8_ : Aside0 (gb176 ≠ gb182):=⟨h8_⟩
                have n9_ : Aside0 (gb182 ≠ gb176):=⟨h9_⟩
                have n10_ : Aside0 (gb183 ≠ gb182):=⟨h10_⟩
                have n11_ : Aside0 (gb182 ≠ gb183):=⟨h11_⟩
                have n12_ : Aside0 (w.heap.size ≤ gb183):=⟨h12_⟩
                have n13_ : Aside0 (w.heap.size ≤ gb183):=⟨h13_⟩
                have n14_ : Aside0 (gb175 ≠ gb183):=⟨h14_⟩
                have n15_ : Aside0 (gb183 ≠ gb175):=⟨h15_⟩
                have n16_ : Aside0 (gb176 ≠ gb183):=⟨h16_⟩
                have n17_ : Aside0 (gb183 ≠ gb176):=⟨h17_⟩
                have n18_ : Aside0 (Below w.heap.size w w79):=⟨h18_⟩
                clear BK175 BK176 HB h0_ h1_ h2_ h3_ h4_ h5_ h6_ h7_ h8_ h9_ h10_ h11_ h12_ h13_ h14_ h15_ h16_ h17_ h18_
                have BK175:=n0_
                have BK176:=n1_
                have BK182:=n2_
                have BK183:=n3_
                have GW182:=n4_
                have GE182:=n5_
                have NB175_182:=n6_
                have NB182_175:=n7_
                have NB176_182:=n8_
                have NB182_176:=n9_
                have NB183_182:=n10_
                have NB182_183:=n11_
                have GW183:=n12_
                have GE183:=n13_
                have NB175_183:=n14_
                have NB183_175:=n15_
                have NB176_183:=n16_
                have NB183_176:=n17_
                have HB:=n18_
                clear n0_ n1_ n2_ n3_ n4_ n5_ n6_ n7_ n8_ n9_ n10_ n11_ n12_ n13_ n14_ n15_ n16_ n17_ n18_
                have hHeld : w79.cell? ⟨gb175,0,none⟩ = some (.string a0_0) ∧ w79.cell? ⟨gb175,1,none⟩ = some (.slice A0_1 l0_1.length c0_1) ∧ w79.cell? ⟨gb175,2,none⟩ = some (.slice A0_2 l0_2.length c0_2) ∧ w79.cell? ⟨gb175,3,none⟩ = some (.slice (some ad180) l0_3.length c0_3) ∧ w79.cell? ⟨gb176,0,none⟩ = some (.string a1_0) ∧ w79.cell? ⟨gb176,1,none⟩ = some (.slice A1_1 l1_1.length c1_1) ∧ w79.cell? ⟨gb176,2,none⟩ = some (.slice A1_2 l1_2.length c1_2) ∧ w79.cell? ⟨gb176,3,none⟩ = some (.slice (some ad181) l1_3.length c1_3) ∧ w79.cell? (ad180.add ((x61_3).toNat * 3)) = some (.string ((rd_T148 l0_3 x61_3).f0)) ∧ w79.cell? ⟨(ad180.add ((x61_3).toNat * 3)).block,(ad180.add ((x61_3).toNat * 3)).off + 1,none⟩ = some (.bool ((rd_T148 l0_3 x61_3).f1)) ∧ w79.cell? ⟨(ad180.add ((x61_3).toNat * 3)).block,(ad180.add ((x61_3).toNat * 3)).off + 2,none⟩ = some (.slice A180_2 ((rd_T148 l0_3 x61_3).f2).length c180_2) ∧ w79.cell? (ad181.add ((x61_3).toNat * 3)) = some (.string ((rd_T148 l1_3 x61_3).f0)) ∧ w79.cell? ⟨(ad181.add ((x61_3).toNat * 3)).block,(ad181.add ((x61_3).toNat * 3)).off + 1,none⟩ = some (.bool ((rd_T148 l1_3 x61_3).f1)) ∧ w79.cell? ⟨(ad181.add ((x61_3).toNat * 3)).block,(ad181.add ((x61_3).toNat * 3)).off + 2,none⟩ = some (.slice A181_2 ((rd_T148 l1_3 x61_3).f2).length c181_2):=hS_
                refine norm_ (a':=?_) ?_ ?_
                rotate_left
                ·simp only [putAll,Act.put,sI_,sZ_,sS_]
                 rfl
                refine one_ (i:=12) (N:=none) (tb_ 13 1) rfl rfl (one_of HT_.out (by kernel_rfl)) (by decide) (fun K hK=>?_)
                have hs80 : w79.cell? ⟨gb182,0,none⟩ = some (.string (⟨#[]⟩ : ByteArray)):=(kC_ BK182.out 0).trans rfl
                have hfs80:=kF_ BK182.out 0
                have hns80_0:=NB175_182.out
                have hns80_1:=NB176_182.out
                have hns80_3:=NB183_182.out
                have hms80_0:=NB182_175.out
                have hms80_1:=NB182_176.out
                have hms80_3:=NB182_183.out
                have hs81 : w79.cell? ⟨gb182,1,none⟩ = some (.bool false):=(kC_ BK182.out 1).trans rfl
                have hfs81:=kF_ BK182.out 1
                have hns81_0:=NB175_182.out
                have hns81_1:=NB176_182.out
                have hns81_3:=NB183_182.out
                have hms81_0:=NB182_175.out
                have hms81_1:=NB182_176.out
                have hms81_3:=NB182_183.out
                have hs82 : w79.cell? ⟨gb182,2,none⟩ = some (.slice none 0 0):=(kC_ BK182.out 2).trans rfl
                have hfs82:=kF_ BK182.out 2
                have hns82_0:=NB175_182.out
                have hns82_1:=NB176_182.out
                have hns82_3:=NB183_182.out
                have hms82_0:=NB182_175.out
                have hms82_1:=NB182_176.out
                have hms82_3:=NB182_183.out
                refine skip_ (w1:=?_) (by rfl) rfl ?_ ?_
                rotate_left
                ·go_simp
                 rfl
                refine hK.out _ _ ⟨((cell_far (p:=⟨gb182,_,none⟩) NB175_182.out _).trans (((cell_far (p:=⟨gb182,_,none⟩) NB175_182.out _).trans (((cell_far (p:=⟨gb182,_,none⟩) NB175_182.out _).trans (hHeld.1)))))),((cell_far (p:=⟨gb182,_,none⟩) NB175_182.out _).trans (((cell_far (p:=⟨gb182,_,none⟩) NB175_182.out _).trans (((cell_far (p:=⟨gb182,_,none⟩) NB175_182.out _).trans (hHeld.2.1)))))),((cell_far (p:=⟨gb182,_,none⟩) NB175_182.out _).trans (((cell_far (p:=⟨gb182,_,none⟩) NB175_182.out _).trans (((cell_far (p:=⟨gb182,_,none⟩) NB175_182.out _).trans (hHeld.2.2.1)))))),((cell_far (p:=⟨gb182,_,none⟩) NB175_182.out _).trans (((cell_far (p:=⟨gb182,_,none⟩) NB175_182.out _).trans (((cell_far (p:=⟨gb182,_,none⟩) NB175_182.out _).trans (hHeld.2.2.2.1)))))),((cell_far (p:=⟨gb182,_,none⟩) NB176_182.out _).trans (((cell_far (p:=⟨gb182,_,none⟩) NB176_182.out _).trans (((cell_far (p:=⟨gb182,_,none⟩) NB176_182.out _).trans (hHeld.2.2.2.2.1)))))),((cell_far (p:=⟨gb182,_,none⟩) NB176_182.out _).trans (((cell_far (p:=⟨gb182,_,none⟩) NB176_182.out _).trans (((cell_far (p:=⟨gb182,_,none⟩) NB176_182.out _).trans (hHeld.2.2.2.2.2.1)))))),((cell_far (p:=⟨gb182,_,none⟩) NB176_182.out _).trans (((cell_far (p:=⟨gb182,_,none⟩) NB176_182.out _).trans (((cell_far (p:=⟨gb182,_,none⟩) NB176_182.out _).trans (hHeld.2.2.2.2.2.2.1)))))),((cell_far (p:=⟨gb182,_,none⟩) NB176_182.out _).trans (((cell_far (p:=⟨gb182,_,none⟩) NB176_182.out _).trans (((cell_far (p:=⟨gb182,_,none⟩) NB176_182.out _).trans (hHeld.2.2.2.2.2.2.2.1)))))),((cell_far (p:=⟨gb182,_,none⟩) (by first | exact nN_ (nL_ (by have:=wL_ _ _ hw180_0;first | rwa [add_block] at this | exact this) GW182.out) | (rw [add_block];exact nN_ (nL_ (by have:=wL_ _ _ hw180_0;first | rwa [add_block] at this | exact this) GW182.out)) | (show (Addr.add _ _).block ≠ _;rw [add_block];exact nN_ (nL_ (by have:=wL_ _ _ hw180_0;first | rwa [add_block] at this | exact this) GW182.out)) | (dsimp only;exact nN_ (nL_ (by have:=wL_ _ _ hw180_0;first | rwa [add_block] at this | exact this) GW182.out))) _).trans (((cell_far (p:=⟨gb182,_,none⟩) (by first | exact nN_ (nL_ (by have:=wL_ _ _ hw180_0;first | rwa [add_block] at this | exact this) GW182.out) | (rw [add_block];exact nN_ (nL_ (by have:=wL_ _ _ hw180_0;first | rwa [add_block] at this | exact this) GW182.out)) | (show (Addr.add _ _).block ≠ _;rw [add_block];exact nN_ (nL_ (by have:=wL_ _ _ hw180_0;first | rwa [add_block] at this | exact this) GW182.out)) | (dsimp only;exact nN_ (nL_ (by have:=wL_ _ _ hw180_0;first | rwa [add_block] at this | exact this) GW182.out))) _).trans (((cell_far (p:=⟨gb182,_,none⟩) (by first | exact nN_ (nL_ (by have:=wL_ _ _ hw180_0;first | rwa [add_block] at this | exact this) GW182.out) | (rw [add_block];exact nN_ (nL_ (by have:=wL_ _ _ hw180_0;first | rwa [add_block] at this | exact this) GW182.out)) | (show (Addr.add _ _).block ≠ _;rw [add_block];exact nN_ (nL_ (by have:=wL_ _ _ hw180_0;first | rwa [add_block] at this | exact this) GW182.out)) | (dsimp only;exact nN_ (nL_ (by have:=wL_ _ _ hw180_0;first | rwa [add_block] at this | exact this) GW182.out))) _).trans (hHeld.2.2.2.2.2.2.2.2.1)))))),((cell_far (p:=⟨gb182,_,none⟩) (by first | exact nN_ (nL_ (by have:=wL_ _ _ hw180_1;first | rwa [add_block] at this | exact this) GW182.out) | (rw [add_block];exact nN_ (nL_ (by have:=wL_ _ _ hw180_1;first | rwa [add_block] at this | exact this) GW182.out)) | (show (Addr.add _ _).block ≠ _;rw [add_block];exact nN_ (nL_ (by have:=wL_ _ _ hw180_1;first | rwa [add_block] at this | exact this) GW182.out)) | (dsimp only;exact nN_ (nL_ (by have:=wL_ _ _ hw180_1;first | rwa [add_block] at this | exact this) GW182.out))) _).trans (((cell_far (p:=⟨gb182,_,none⟩) (by first | exact nN_ (nL_ (by have:=wL_ _ _ hw180_1;first | rwa [add_block] at this | exact this) GW182.out) | (rw [add_block];exact nN_ (nL_ (by have:=wL_ _ _ hw180_1;first | rwa [add_block] at this | exact this) GW182.out)) | (show (Addr.add _ _).block ≠ _;rw [add_block];exact nN_ (nL_ (by have:=wL_ _ _ hw180_1;first | rwa [add_block] at this | exact this) GW182.out)) | (dsimp only;exact nN_ (nL_ (by have:=wL_ _ _ hw180_1;first | rwa [add_block] at this | exact this) GW182.out))) _).trans (((cell_far (p:=⟨gb182,_,none⟩) (by first | exact nN_ (nL_ (by have:=wL_ _ _ hw180_1;first | rwa [add_block] at this | exact this) GW182.out) | (rw [add_block];exact nN_ (nL_ (by have:=wL_ _ _ hw180_1;first | rwa [add_block] at this | exact this) GW182.out)) | (show (Addr.add _ _).block ≠ _;rw [add_block];exact nN_ (nL_ (by have:=wL_ _ _ hw180_1;first | rwa [add_block] at this | exact this) GW182.out)) | (dsimp only;exact nN_ (nL_ (by have:=wL_ _ _ hw180_1;first | rwa [add_block] at this | exact this) GW182.out))) _).trans (hHeld.2.2.2.2.2.2.2.2.2.1)))))),((cell_far (p:=⟨gb182,_,none⟩) (by first | exact nN_ (nL_ (by have:=wL_ _ _ hw180_2;first | rwa [add_block] at this | exact this) GW182.out) | (rw [add_block];exact nN_ (nL_ (by have:=wL_ _ _ hw180_2;first | rwa [add_block] at this | exact this) GW182.out)) | (show (Addr.add _ _).block ≠ _;rw [add_block];exact nN_ (nL_ (by have:=wL_ _ _ hw180_2;first | rwa [add_block] at this | exact this) GW182.out)) | (dsimp only;exact nN_ (nL_ (by have:=wL_ _ _ hw180_2;first | rwa [add_block] at this | exact this) GW182.out))) _).trans (((cell_far (p:=⟨gb182,_,none⟩) (by first | exact nN_ (nL_ (by have:=wL_ _ _ hw180_2;first | rwa [add_block] at this | exact this) GW182.out) | (rw [add_block];exact nN_ (nL_ (by have:=wL_ _ _ hw180_2;first | rwa [add_block] at this | exact this) GW182.out)) | (show (Addr.add _ _).block ≠ _;rw [add_block];exact nN_ (nL_ (by have:=wL_ _ _ hw180_2;first | rwa [add_block] at this | exact this) GW182.out)) | (dsimp only;exact nN_ (nL_ (by have:=wL_ _ _ hw180_2;first | rwa [add_block] at this | exact this) GW182.out))) _).trans (((cell_far (p:=⟨gb182,_,none⟩) (by first | exact nN_ (nL_ (by have:=wL_ _ _ hw180_2;first | rwa [add_block] at this | exact this) GW182.out) | (rw [add_block];exact nN_ (nL_ (by have:=wL_ _ _ hw180_2;first | rwa [add_block] at this | exact this) GW182.out)) | (show (Addr.add _ _).block ≠ _;rw [add_block];exact nN_ (nL_ (by have:=wL_ _ _ hw180_2;first | rwa [add_block] at this | exact this) GW182.out)) | (dsimp only;exact nN_ (nL_ (by have:=wL_ _ _ hw180_2;first | rwa [add_block] at this | exact this) GW182.out))) _).trans (hHeld.2.2.2.2.2.2.2.2.2.2.1)))))),((cell_far (p:=⟨gb182,_,none⟩) (by first | exact nN_ (nL_ (by have:=wL_ _ _ hw181_0;first | rwa [add_block] at this | exact this) GW182.out) | (rw [add_block];exact nN_ (nL_ (by have:=wL_ _ _ hw181_0;first | rwa [add_block] at this | exact this) GW182.out)) | (show (Addr.add _ _).block ≠ _;rw [add_block];exact nN_ (nL_ (by have:=wL_ _ _ hw181_0;first | rwa [add_block] at this | exact this) GW182.out)) | (dsimp only;exact nN_ (nL_ (by have:=wL_ _ _ hw181_0;first | rwa [add_block] at this | exact this) GW182.out))) _).trans (((cell_far (p:=⟨gb182,_,none⟩) (by first | exact nN_ (nL_ (by have:=wL_ _ _ hw181_0;first | rwa [add_block] at this | exact this) GW182.out) | (rw [add_block];exact nN_ (nL_ (by have:=wL_ _ _ hw181_0;first | rwa [add_block] at this | exact this) GW182.out)) | (show (Addr.add _ _).block ≠ _;rw [add_block];exact nN_ (nL_ (by have:=wL_ _ _ hw181_0;first | rwa [add_block] at this | exact this) GW182.out)) | (dsimp only;exact nN_ (nL_ (by have:=wL_ _ _ hw181_0;first | rwa [add_block] at this | exact this) GW182.out))) _).trans (((cell_far (p:=⟨gb182,_,none⟩) (by first | exact nN_ (nL_ (by have:=wL_ _ _ hw181_0;first | rwa [add_block] at this | exact this) GW182.out) | (rw [add_block];exact nN_ (nL_ (by have:=wL_ _ _ hw181_0;first | rwa [add_block] at this | exact this) GW182.out)) | (show (Addr.add _ _).block ≠ _;rw [add_block];exact nN_ (nL_ (by have:=wL_ _ _ hw181_0;first | rwa [add_block] at this | exact this) GW182.out)) | (dsimp only;exact nN_ (nL_ (by have:=wL_ _ _ hw181_0;first | rwa [add_block] at this | exact this) GW182.out))) _).trans (hHeld.2.2.2.2.2.2.2.2.2.2.2.1)))))),((cell_far (p:=⟨gb182,_,none⟩) (by first | exact nN_ (nL_ (by have:=wL_ _ _ hw181_1;first | rwa [add_block] at this | exact this) GW182.out) | (rw [add_block];exact nN_ (nL_ (by have:=wL_ _ _ hw181_1;first | rwa [add_block] at this | exact this) GW182.out)) | (show (Addr.add _ _).block ≠ _;rw [add_block];exact nN_ (nL_ (by have:=wL_ _ _ hw181_1;first | rwa [add_block] at this | exact this) GW182.out)) | (dsimp only;exact nN_ (nL_ (by have:=wL_ _ _ hw181_1;first | rwa [add_block] at this | exact this) GW182.out))) _).trans (((cell_far (p:=⟨gb182,_,none⟩) (by first | exact nN_ (nL_ (by have:=wL_ _ _ hw181_1;first | rwa [add_block] at this | exact this) GW182.out) | (rw [add_block];exact nN_ (nL_ (by have:=wL_ _ _ hw181_1;first | rwa [add_block] at this | exact this) GW182.out)) | (show (Addr.add _ _).block ≠ _;rw [add_block];exact nN_ (nL_ (by have:=wL_ _ _ hw181_1;first | rwa [add_block] at this | exact this) GW182.out)) | (dsimp only;exact nN_ (nL_ (by have:=wL_ _ _ hw181_1;first | rwa [add_block] at this | exact this) GW182.out))) _).trans (((cell_far (p:=⟨gb182,_,none⟩) (by first | exact nN_ (nL_ (by have:=wL_ _ _ hw181_1;first | rwa [add_block] at this | exact this) GW182.out) | (rw [add_block];exact nN_ (nL_ (by have:=wL_ _ _ hw181_1;first | rwa [add_block] at this | exact this) GW182.out)) | (show (Addr.add _ _).block ≠ _;rw [add_block];exact nN_ (nL_ (by have:=wL_ _ _ hw181_1;first | rwa [add_block] at this | exact this) GW182.out)) | (dsimp only;exact nN_ (nL_ (by have:=wL_ _ _ hw181_1;first | rwa [add_block] at this | exact this) GW182.out))) _).trans (hHeld.2.2.2.2.2.2.2.2.2.2.2.2.1)))))),((cell_far (p:=⟨gb182,_,none⟩) (by first | exact nN_ (nL_ (by have:=wL_ _ _ hw181_2;first | rwa [add_block] at this | exact this) GW182.out) | (rw [add_block];exact nN_ (nL_ (by have:=wL_ _ _ hw181_2;first | rwa [add_block] at this | exact this) GW182.out)) | (show (Addr.add _ _).block ≠ _;rw [add_block];exact nN_ (nL_ (by have:=wL_ _ _ hw181_2;first | rwa [add_block] at this | exact this) GW182.out)) | (dsimp only;exact nN_ (nL_ (by have:=wL_ _ _ hw181_2;first | rwa [add_block] at this | exact this) GW182.out))) _).trans (((cell_far (p:=⟨gb182,_,none⟩) (by first | exact nN_ (nL_ (by have:=wL_ _ _ hw181_2;first | rwa [add_block] at this | exact this) GW182.out) | (rw [add_block];exact nN_ (nL_ (by have:=wL_ _ _ hw181_2;first | rwa [add_block] at this | exact this) GW182.out)) | (show (Addr.add _ _).block ≠ _;rw [add_block];exact nN_ (nL_ (by have:=wL_ _ _ hw181_2;first | rwa [add_block] at this | exact this) GW182.out)) | (dsimp only;exact nN_ (nL_ (by have:=wL_ _ _ hw181_2;first | rwa [add_block] at this | exact this) GW182.out))) _).trans (((cell_far (p:=⟨gb182,_,none⟩) (by first | exact nN_ (nL_ (by have:=wL_ _ _ hw181_2;first | rwa [add_block] at this | exact this) GW182.out) | (rw [add_block];exact nN_ (nL_ (by have:=wL_ _ _ hw181_2;first | rwa [add_block] at this | exact this) GW182.out)) | (show (Addr.add _ _).block ≠ _;rw [add_block];exact nN_ (nL_ (by have:=wL_ _ _ hw181_2;first | rwa [add_block] at this | exact this) GW182.out)) | (dsimp only;exact nN_ (nL_ (by have:=wL_ _ _ hw181_2;first | rwa [add_block] at this | exact this) GW182.out))) _).trans (hHeld.2.2.2.2.2.2.2.2.2.2.2.2.2))))))⟩ (fun hHeld=>?_)
                clear hK K
                refine one_ (i:=13) (N:=none) (tb_ 14 0) rfl rfl (one_of HT_.out (by kernel_rfl)) (by decide) (fun K hK=>?_)
                have hs83 : w79.cell? ⟨gb183,0,none⟩ = some (.string (⟨#[]⟩ : ByteArray)):=(kC_ BK183.out 0).trans rfl
                have hfs83:=kF_ BK183.out 0
                have hns83_0:=NB175_183.out
                have hns83_1:=NB176_183.out
                have hns83_2:=NB182_183.out
                have hms83_0:=NB183_175.out
                have hms83_1:=NB183_176.out
                have hms83_2:=NB183_182.out
                have hs84 : w79.cell? ⟨gb183,1,none⟩ = some (.bool false):=(kC_ BK183.out 1).trans rfl
                have hfs84:=kF_ BK183.out 1
                have hns84_0:=NB175_183.out
                have hns84_1:=NB176_183.out
                have hns84_2:=NB182_183.out
                have hms84_0:=NB183_175.out
                have hms84_1:=NB183_176.out
                have hms84_2:=NB183_182.out
                have hs85 : w79.cell? ⟨gb183,2,none⟩ = some (.slice none 0 0):=(kC_ BK183.out 2).trans rfl
                have hfs85:=kF_ BK183.out 2
                have hns85_0:=NB175_183.out
                have hns85_1:=NB176_183.out
                have hns85_2:=NB182_183.out
                have hms85_0:=NB183_175.out
                have hms85_1:=NB183_176.out
                have hms85_2:=NB183_182.out
                refine skip_ (w1:=?_) (by rfl) rfl ?_ ?_
                rotate_left
                ·go_simp
                 rfl
                refine hK.out _ _ ⟨((cell_far (p:=⟨gb183,_,none⟩) NB175_183.out _).trans (((cell_far (p:=⟨gb183,_,none⟩) NB175_183.out _).trans (((cell_far (p:=⟨gb183,_,none⟩) NB175_183.out _).trans (hHeld.1)))))),((cell_far (p:=⟨gb183,_,none⟩) NB175_183.out _).trans (((cell_far (p:=⟨gb183,_,none⟩) NB175_183.out _).trans (((cell_far (p:=⟨gb183,_,none⟩) NB175_183.out _).trans (hHeld.2.1)))))),((cell_far (p:=⟨gb183,_,none⟩) NB175_183.out _).trans (((cell_far (p:=⟨gb183,_,none⟩) NB175_183.out _).trans (((cell_far (p:=⟨gb183,_,none⟩) NB175_183.out _).trans (hHeld.2.2.1)))))),((cell_far (p:=⟨gb183,_,none⟩) NB175_183.out _).trans (((cell_far (p:=⟨gb183,_,none⟩) NB175_183.out _).trans (((cell_far (p:=⟨gb183,_,none⟩) NB175_183.out _).trans (hHeld.2.2.2.1)))))),((cell_far (p:=⟨gb183,_,none⟩) NB176_183.out _).trans (((cell_far (p:=⟨gb183,_,none⟩) NB176_183.out _).trans (((cell_far (p:=⟨gb183,_,none⟩) NB176_183.out _).trans (hHeld.2.2.2.2.1)))))),((cell_far (p:=⟨gb183,_,none⟩) NB176_183.out _).trans (((cell_far (p:=⟨gb183,_,none⟩) NB176_183.out _).trans (((cell_far (p:=⟨gb183,_,none⟩) NB176_183.out _).trans (hHeld.2.2.2.2.2.1)))))),((cell_far (p:=⟨gb183,_,none⟩) NB176_183.out _).trans (((cell_far (p:=⟨gb183,_,none⟩) NB176_183.out _).trans (((cell_far (p:=⟨gb183,_,none⟩) NB176_183.out _).trans (hHeld.2.2.2.2.2.2.1)))))),((cell_far (p:=⟨gb183,_,none⟩) NB176_183.out _).trans (((cell_far (p:=⟨gb183,_,none⟩) NB176_183.out _).trans (((cell_far (p:=⟨gb183,_,none⟩) NB176_183.out _).trans (hHeld.2.2.2.2.2.2.2.1)))))),((cell_far (p:=⟨gb183,_,none⟩) (by first | exact nN_ (nL_ (by have:=wL_ _ _ hw180_0;first | rwa [add_block] at this | exact this) GW183.out) | (rw [add_block];exact nN_ (nL_ (by have:=wL_ _ _ hw180_0;first | rwa [add_block] at this | exact this) GW183.out)) | (show (Addr.add _ _).block ≠ _;rw [add_block];exact nN_ (nL_ (by have:=wL_ _ _ hw180_0;first | rwa [add_block] at this | exact this) GW183.out)) | (dsimp only;exact nN_ (nL_ (by have:=wL_ _ _ hw180_0;first | rwa [add_block] at this | exact this) GW183.out))) _).trans (((cell_far (p:=⟨gb183,_,none⟩) (by first | exact nN_ (nL_ (by have:=wL_ _ _ hw180_0;first | rwa [add_block] at this | exact this) GW183.out) | (rw [add_block];exact nN_ (nL_ (by have:=wL_ _ _ hw180_0;first | rwa [add_block] at this | exact this) GW183.out)) | (show (Addr.add _ _).block ≠ _;rw [add_block];exact nN_ (nL_ (by have:=wL_ _ _ hw180_0;first | rwa [add_block] at this | exact this) GW183.out)) | (dsimp only;exact nN_ (nL_ (by have:=wL_ _ _ hw180_0;first | rwa [add_block] at this | exact this) GW183.out))) _).trans (((cell_far (p:=⟨gb183,_,none⟩) (by first | exact nN_ (nL_ (by have:=wL_ _ _ hw180_0;first | rwa [add_block] at this | exact this) GW183.out) | (rw [add_block];exact nN_ (nL_ (by have:=wL_ _ _ hw180_0;first | rwa [add_block] at this | exact this) GW183.out)) | (show (Addr.add _ _).block ≠ _;rw [add_block];exact nN_ (nL_ (by have:=wL_ _ _ hw180_0;first | rwa [add_block] at this | exact this) GW183.out)) | (dsimp only;exact nN_ (nL_ (by have:=wL_ _ _ hw180_0;first | rwa [add_block] at this | exact this) GW183.out))) _).trans (hHeld.2.2.2.2.2.2.2.2.1)))))),((cell_far (p:=⟨gb183,_,none⟩) (by first | exact nN_ (nL_ (by have:=wL_ _ _ hw180_1;first | rwa [add_block] at this | exact this) GW183.out) | (rw [add_block];exact nN_ (nL_ (by have:=wL_ _ _ hw180_1;first | rwa [add_block] at this | exact this) GW183.out)) | (show (Addr.add _ _).block ≠ _;rw [add_block];exact nN_ (nL_ (by have:=wL_ _ _ hw180_1;first | rwa [add_block] at this | exact this) GW183.out)) | (dsimp only;exact nN_ (nL_ (by have:=wL_ _ _ hw180_1;first | rwa [add_block] at this | exact this) GW183.out))) _).trans (((cell_far (p:=⟨gb183,_,none⟩) (by first | exact nN_ (nL_ (by have:=wL_ _ _ hw180_1;first | rwa [add_block] at this | exact this) GW183.out) | (rw [add_block];exact nN_ (nL_ (by have:=wL_ _ _ hw180_1;first | rwa [add_block] at this | exact this) GW183.out)) | (show (Addr.add _ _).block ≠ _;rw [add_block];exact nN_ (nL_ (by have:=wL_ _ _ hw180_1;first | rwa [add_block] at this | exact this) GW183.out)) | (dsimp only;exact nN_ (nL_ (by have:=wL_ _ _ hw180_1;first | rwa [add_block] at this | exact this) GW183.out))) _).trans (((cell_far (p:=⟨gb183,_,none⟩) (by first | exact nN_ (nL_ (by have:=wL_ _ _ hw180_1;first | rwa [add_block] at this | exact this) GW183.out) | (rw [add_block];exact nN_ (nL_ (by have:=wL_ _ _ hw180_1;first | rwa [add_block] at this | exact this) GW183.out)) | (show (Addr.add _ _).block ≠ _;rw [add_block];exact nN_ (nL_ (by have:=wL_ _ _ hw180_1;first | rwa [add_block] at this | exact this) GW183.out)) | (dsimp only;exact nN_ (nL_ (by have:=wL_ _ _ hw180_1;first | rwa [add_block] at this | exact this) GW183.out))) _).trans (hHeld.2.2.2.2.2.2.2.2.2.1)))))),((cell_far (p:=⟨gb183,_,none⟩) (by first | exact nN_ (nL_ (by have:=wL_ _ _ hw180_2;first | rwa [add_block] at this | exact this) GW183.out) | (rw [add_block];exact nN_ (nL_ (by have:=wL_ _ _ hw180_2;first | rwa [add_block] at this | exact this) GW183.out)) | (show (Addr.add _ _).block ≠ _;rw [add_block];exact nN_ (nL_ (by have:=wL_ _ _ hw180_2;first | rwa [add_block] at this | exact this) GW183.out)) | (dsimp only;exact nN_ (nL_ (by have:=wL_ _ _ hw180_2;first | rwa [add_block] at this | exact this) GW183.out))) _).trans (((cell_far (p:=⟨gb183,_,none⟩) (by first | exact nN_ (nL_ (by have:=wL_ _ _ hw180_2;first | rwa [add_block] at this | exact this) GW183.out) | (rw [add_block];exact nN_ (nL_ (by have:=wL_ _ _ hw180_2;first | rwa [add_block] at this | exact this) GW183.out)) | (show (Addr.add _ _).block ≠ _;rw [add_block];exact nN_ (nL_ (by have:=wL_ _ _ hw180_2;first | rwa [add_block] at this | exact this) GW183.out)) | (dsimp only;exact nN_ (nL_ (by have:=wL_ _ _ hw180_2;first | rwa [add_block] at this | exact this) GW183.out))) _).trans (((cell_far (p:=⟨gb183,_,none⟩) (by first | exact nN_ (nL_ (by have:=wL_ _ _ hw180_2;first | rwa [add_block] at this | exact this) GW183.out) | (rw [add_block];exact nN_ (nL_ (by have:=wL_ _ _ hw180_2;first | rwa [add_block] at this | exact this) GW183.out)) | (show (Addr.add _ _).block ≠ _;rw [add_block];exact nN_ (nL_ (by have:=wL_ _ _ hw180_2;first | rwa [add_block] at this | exact this) GW183.out)) | (dsimp only;exact nN_ (nL_ (by have:=wL_ _ _ hw180_2;first | rwa [add_block] at this | exact this) GW183.out))) _).trans (hHeld.2.2.2.2.2.2.2.2.2.2.1)))))),((cell_far (p:=⟨gb183,_,none⟩) (by first | exact nN_ (nL_ (by have:=wL_ _ _ hw181_0;first | rwa [add_block] at this | exact this) GW183.out) | (rw [add_block];exact nN_ (nL_ (by have:=wL_ _ _ hw181_0;first | rwa [add_block] at this | exact this) GW183.out)) | (show (Addr.add _ _).block ≠ _;rw [add_block];exact nN_ (nL_ (by have:=wL_ _ _ hw181_0;first | rwa [add_block] at this | exact this) GW183.out)) | (dsimp only;exact nN_ (nL_ (by have:=wL_ _ _ hw181_0;first | rwa [add_block] at this | exact this) GW183.out))) _).trans (((cell_far (p:=⟨gb183,_,none⟩) (by first | exact nN_ (nL_ (by have:=wL_ _ _ hw181_0;first | rwa [add_block] at this | exact this) GW183.out) | (rw [add_block];exact nN_ (nL_ (by have:=wL_ _ _ hw181_0;first | rwa [add_block] at this | exact this) GW183.out)) | (show (Addr.add _ _).block ≠ _;rw [add_block];exact nN_ (nL_ (by have:=wL_ _ _ hw181_0;first | rwa [add_block] at this | exact this) GW183.out)) | (dsimp only;exact nN_ (nL_ (by have:=wL_ _ _ hw181_0;first | rwa [add_block] at this | exact this) GW183.out))) _).trans (((cell_far (p:=⟨gb183,_,none⟩) (by first | exact nN_ (nL_ (by have:=wL_ _ _ hw181_0;first | rwa [add_block] at this | exact this) GW183.out) | (rw [add_block];exact nN_ (nL_ (by have:=wL_ _ _ hw181_0;first | rwa [add_block] at this | exact this) GW183.out)) | (show (Addr.add _ _).block ≠ _;rw [add_block];exact nN_ (nL_ (by have:=wL_ _ _ hw181_0;first | rwa [add_block] at this | exact this) GW183.out)) | (dsimp only;exact nN_ (nL_ (by have:=wL_ _ _ hw181_0;first | rwa [add_block] at this | exact this) GW183.out))) _).trans (hHeld.2.2.2.2.2.2.2.2.2.2.2.1)))))),((cell_far (p:=⟨gb183,_,none⟩) (by first | exact nN_ (nL_ (by have:=wL_ _ _ hw181_1;first | rwa [add_block] at this | exact this) GW183.out) | (rw [add_block];exact nN_ (nL_ (by have:=wL_ _ _ hw181_1;first | rwa [add_block] at this | exact this) GW183.out)) | (show (Addr.add _ _).block ≠ _;rw [add_block];exact nN_ (nL_ (by have:=wL_ _ _ hw181_1;first | rwa [add_block] at this | exact this) GW183.out)) | (dsimp only;exact nN_ (nL_ (by have:=wL_ _ _ hw181_1;first | rwa [add_block] at this | exact this) GW183.out))) _).trans (((cell_far (p:=⟨gb183,_,none⟩) (by first | exact nN_ (nL_ (by have:=wL_ _ _ hw181_1;first | rwa [add_block] at this | exact this) GW183.out) | (rw [add_block];exact nN_ (nL_ (by have:=wL_ _ _ hw181_1;first | rwa [add_block] at this | exact this) GW183.out)) | (show (Addr.add _ _).block ≠ _;rw [add_block];exact nN_ (nL_ (by have:=wL_ _ _ hw181_1;first | rwa [add_block] at this | exact this) GW183.out)) | (dsimp only;exact nN_ (nL_ (by have:=wL_ _ _ hw181_1;first | rwa [add_block] at this | exact this) GW183.out))) _).trans (((cell_far (p:=⟨gb183,_,none⟩) (by first | exact nN_ (nL_ (by have:=wL_ _ _ hw181_1;first | rwa [add_block] at this | exact this) GW183.out) | (rw [add_block];exact nN_ (nL_ (by have:=wL_ _ _ hw181_1;first | rwa [add_block] at this | exact this) GW183.out)) | (show (Addr.add _ _).block ≠ _;rw [add_block];exact nN_ (nL_ (by have:=wL_ _ _ hw181_1;first | rwa [add_block] at this | exact this) GW183.out)) | (dsimp only;exact nN_ (nL_ (by have:=wL_ _ _ hw181_1;first | rwa [add_block] at this | exact this) GW183.out))) _).trans (hHeld.2.2.2.2.2.2.2.2.2.2.2.2.1)))))),((cell_far (p:=⟨gb183,_,none⟩) (by first | exact nN_ (nL_ (by have:=wL_ _ _ hw181_2;first | rwa [add_block] at this | exact this) GW183.out) | (rw [add_block];exact nN_ (nL_ (by have:=wL_ _ _ hw181_2;first | rwa [add_block] at this | exact this) GW183.out)) | (show (Addr.add _ _).block ≠ _;rw [add_block];exact nN_ (nL_ (by have:=wL_ _ _ hw181_2;first | rwa [add_block] at this | exact this) GW183.out)) | (dsimp only;exact nN_ (nL_ (by have:=wL_ _ _ hw181_2;first | rwa [add_block] at this | exact this) GW183.out))) _).trans (((cell_far (p:=⟨gb183,_,none⟩) (by first | exact nN_ (nL_ (by have:=wL_ _ _ hw181_2;first | rwa [add_block] at this | exact this) GW183.out) | (rw [add_block];exact nN_ (nL_ (by have:=wL_ _ _ hw181_2;first | rwa [add_block] at this | exact this) GW183.out)) | (show (Addr.add _ _).block ≠ _;rw [add_block];exact nN_ (nL_ (by have:=wL_ _ _ hw181_2;first | rwa [add_block] at this | exact this) GW183.out)) | (dsimp only;exact nN_ (nL_ (by have:=wL_ _ _ hw181_2;first | rwa [add_block] at this | exact this) GW183.out))) _).trans (((cell_far (p:=⟨gb183,_,none⟩) (by first | exact nN_ (nL_ (by have:=wL_ _ _ hw181_2;first | rwa [add_block] at this | exact this) GW183.out) | (rw [add_block];exact nN_ (nL_ (by have:=wL_ _ _ hw181_2;first | rwa [add_block] at this | exact this) GW183.out)) | (show (Addr.add _ _).block ≠ _;rw [add_block];exact nN_ (nL_ (by have:=wL_ _ _ hw181_2;first | rwa [add_block] at this | exact this) GW183.out)) | (dsimp only;exact nN_ (nL_ (by have:=wL_ _ _ hw181_2;first | rwa [add_block] at this | exact this) GW183.out))) _).trans (hHeld.2.2.2.2.2.2.2.2.2.2.2.2.2))))))⟩ (fun hHeld=>?_)
                clear hK K
                refine done_ (done_of HT_.out (by kernel_rfl)) ?_
                have hnb86:=NB182_175.out
                have hnc86:=NB175_182.out
                have hnb87:=NB182_176.out
                have hnc87:=NB176_182.out
                have hnb88:=NB182_183.out
                have hnc88:=NB183_182.out
                have hcz89_0 : w79.cell? ⟨gb182,0,none⟩ = some (.string (⟨#[]⟩ : ByteArray)):=(kC_ BK182.out 0).trans rfl
                have hcz89_1 : w79.cell? ⟨gb182,1,none⟩ = some (.bool false):=(kC_ BK182.out 1).trans rfl
                have hcz89_2 : w79.cell? ⟨gb182,2,none⟩ = some (.slice none 0 0):=(kC_ BK182.out 2).trans rfl
                have hfz89_0:=kF_ BK182.out 0
                have hfz89_1:=kF_ BK182.out 1
                have hfz89_2:=kF_ BK182.out 2
                have hnb90:=NB183_175.out
                have hnc90:=NB175_183.out
                have hnb91:=NB183_176.out
                have hnc91:=NB176_183.out
                have hcz92_0 : w79.cell? ⟨gb183,0,none⟩ = some (.string (⟨#[]⟩ : ByteArray)):=(kC_ BK183.out 0).trans rfl
                have hcz92_1 : w79.cell? ⟨gb183,1,none⟩ = some (.bool false):=(kC_ BK183.out 1).trans rfl
                have hcz92_2 : w79.cell? ⟨gb183,2,none⟩ = some (.slice none 0 0):=(kC_ BK183.out 2).trans rfl
                have hfz92_0:=kF_ BK183.out 0
                have hfz92_1:=kF_ BK183.out 1
                have hfz92_2:=kF_ BK183.out 2
                try go_wp2_with (first | (go_at_call 140;(with_reducible refine (impl_sameParts.calls k3 _ _ ((rd_T148 l0_3 x61_3).f2) _ _ ((rd_T148 l1_3 x61_3).f2) false _ ?side1 ?side2 ?side3 ?side4 A57.out).mono ?_);(case side1=>exact Kd.C_below HR180_2.out (by exact bZ_ HB));(case side2=>exact HC180_2.out);(case side3=>exact Kd.C_below HR181_2.out (by exact bZ_ HB));(case side4=>exact HC181_2.out);rintro e w' ⟨rfl,⟨nd,rfl⟩⟩))
                go_ret
                exact ⟨by first | rfl | (simp [errW_none,errW_some] <;> rfl) | (simp [*, errW_none,errW_some] <;> rfl),by exact bZ_ HB⟩
             ·rw [if_neg c38] at H
              have c38b0 : (((rd_T148 l0_3 x61_3).f0).toList == ((rd_T148 l1_3 x61_3).f0).toList) = false:=beq_eq_false_iff_ne.mpr c38
              have c38b1 : (((rd_T148 l0_3 x61_3).f0).toList != ((rd_T148 l1_3 x61_3).f0).toList) = true:=bne_iff_ne.mpr c38
              obtain rfl:=Option.some.inj H
              try go_wp2
              have n0_:=aM_ (kD_ BK175.out)
              have n1_:=aM_ (kD_ BK176.out)
              have n2_:=aM_ (bD_ HB.out)
              clear BK175 BK176 HB
              have BK175:=n0_
              have BK176:=n1_
              have HB:=n2_
              clear n0_ n1_ n2_
              have p180 : 0 ≤ (x61_3 : Int):=oT_ (by first | (with_reducible assumption) | assumption)
              have q180 : x61_3 < (l0_3.length : Int):=oT_ (by first | (with_reducible assumption) | assumption)
              obtain ⟨ad180,A180_2,c180_2,e180,hx180_0,hx180_1,hx180_2,hl180_2,hi180_2⟩:=at_T148 HR0_3.out x61_3 p180 q180
              have hw180_2:=hx180_2
              have hw180_1:=hx180_1
              have hw180_0:=hx180_0
              cases e180
              replace hx180_0:=(HB.out.cell (wL_ w _ hx180_0)).trans hx180_0
              replace hx180_1:=(HB.out.cell (wL_ w _ hx180_1)).trans hx180_1
              replace hx180_2:=(HB.out.cell (wL_ w _ hx180_2)).trans hx180_2
              have HR180_2:=aM_ hi180_2
              have HC180_2:=aM_ hl180_2
              clear hi180_2 hl180_2
              replace p180:=eq_true p180
              replace q180:=eq_true q180
              have p181 : 0 ≤ (x61_3 : Int):=oT_ (by first | (with_reducible assumption) | assumption)
              have q181 : x61_3 < (l1_3.length : Int):=oT_ (by first | (with_reducible assumption) | assumption)
              obtain ⟨ad181,A181_2,c181_2,e181,hx181_0,hx181_1,hx181_2,hl181_2,hi181_2⟩:=at_T148 HR1_3.out x61_3 p181 q181
              have hw181_2:=hx181_2
              have hw181_1:=hx181_1
              have hw181_0:=hx181_0
              cases e181
              replace hx181_0:=(HB.out.cell (wL_ w _ hx181_0)).trans hx181_0
              replace hx181_1:=(HB.out.cell (wL_ w _ hx181_1)).trans hx181_1
              replace hx181_2:=(HB.out.cell (wL_ w _ hx181_2)).trans hx181_2
              have HR181_2:=aM_ hi181_2
              have HC181_2:=aM_ hl181_2
              clear hi181_2 hl181_2
              replace p181:=eq_true p181
              replace q181:=eq_true q181
              refine start_ (n:=14) (S:=fun w'=>w'.cell? ⟨gb175,0,none⟩ = some (.string a0_0) ∧ w'.cell? ⟨gb175,1,none⟩ = some (.slice A0_1 l0_1.length c0_1) ∧ w'.cell? ⟨gb175,2,none⟩ = some (.slice A0_2 l0_2.length c0_2) ∧ w'.cell? ⟨gb175,3,none⟩ = some (.slice (some ad180) l0_3.length c0_3) ∧ w'.cell? ⟨gb176,0,none⟩ = some (.string a1_0) ∧ w'.cell? ⟨gb176,1,none⟩ = some (.slice A1_1 l1_1.length c1_1) ∧ w'.cell? ⟨gb176,2,none⟩ = some (.slice A1_2 l1_2.length c1_2) ∧ w'.cell? ⟨gb176,3,none⟩ = some (.slice (some ad181) l1_3.length c1_3) ∧ w'.cell? (ad180.add ((x61_3).toNat * 3)) = some (.string ((rd_T148 l0_3 x61_3).f0)) ∧ w'.cell? ⟨(ad180.add ((x61_3).toNat * 3)).block,(ad180.add ((x61_3).toNat * 3)).off + 1,none⟩ = some (.bool ((rd_T148 l0_3 x61_3).f1)) ∧ w'.cell? ⟨(ad180.add ((x61_3).toNat * 3)).block,(ad180.add ((x61_3).toNat * 3)).off + 2,none⟩ = some (.slice A180_2 ((rd_T148 l0_3 x61_3).f2).length c180_2) ∧ w'.cell? (ad181.add ((x61_3).toNat * 3)) = some (.string ((rd_T148 l1_3 x61_3).f0)) ∧ w'.cell? ⟨(ad181.add ((x61_3).toNat * 3)).block,(ad181.add ((x61_3).toNat * 3)).off + 1,none⟩ = some (.bool ((rd_T148 l1_3 x61_3).f1)) ∧ w'.cell? ⟨(ad181.add ((x61_3).toNat * 3)).block,(ad181.add ((x61_3).toNat * 3)).off + 2,none⟩ = some (.slice A181_2 ((rd_T148 l1_3 x61_3).f2).length c181_2)) (ds:=[]) (tb_ 0 14) (by kernel_rfl) rfl rfl ⟨(kC_ BK175.out 0).trans rfl,(kC_ BK175.out 1).trans rfl,(kC_ BK175.out 2).trans rfl,(kC_ BK175.out 3).trans rfl,(kC_ BK176.out 0).trans rfl,(kC_ BK176.out 1).trans rfl,(kC_ BK176.out 2).trans rfl,(kC_ BK176.out 3).trans rfl,((HB.out.cell (wL_ w _ hw180_0)).trans hw180_0),((HB.out.cell (wL_ w _ hw180_1)).trans hw180_1),((HB.out.cell (wL_ w _ hw180_2)).trans hw180_2),((HB.out.cell (wL_ w _ hw181_0)).trans hw181_0),((HB.out.cell (wL_ w _ hw181_1)).trans hw181_1),((HB.out.cell (wL_ w _ hw181_2)).trans hw181_2)⟩ (fun hHeld=>?_);refine with_tabW impl_SameDef.tab12 impl_SameDef.bits12 (fun HT_ HW_=>?_)
              generalize wr.drew = w93 at BK175 BK176 HB HR180_2 HR181_2 hx180_0 hx180_1 hx180_2 hx181_0 hx181_1 hx181_2 hHeld ⊢
              refine pure_ (i:=0) (N:=some 64) (v:=?_) (a':=?_) (tb_ 1 13) rfl rfl (any_of HT_.out (by kernel_rfl)) (fun _ _ _ h=>h) (Or.inl ⟨by rfl,?_⟩) ?_ ?_
              rotate_left
              ·intro w'
               go_simp
               with_reducible rfl
              rotate_left
              ·simp only [Act.put,sI_,sZ_,sS_,i64_w,i32_w]
               rfl
              refine pure_ (i:=2) (N:=some 66) (v:=?_) (a':=?_) #[true,false,true,false,false,false,false,false,false,false,false,false,false,false] rfl rfl (any_of HT_.out (by kernel_rfl)) (fun _ _ _ h=>h) (Or.inl ⟨by rfl,?_⟩) ?_ ?_
              rotate_left
              ·intro w'
               go_simp
               with_reducible rfl
              rotate_left
              ·simp only [Act.put,sI_,sZ_,sS_,i64_w,i32_w]
               rfl
              refine pure_ (i:=5) (N:=some 69) (v:=?_) (a':=?_) #[true,false,true,false,false,true,false,false,false,false,false,false,false,false] rfl rfl (any_of HT_.out (by kernel_rfl)) (fun _ _ _ h=>h) (Or.inl ⟨by rfl,?_⟩) ?_ ?_
              rotate_left
              ·intro w'
               go_simp
               with_reducible rfl
              rotate_left
              ·simp only [Act.put,sI_,sZ_,sS_,i64_w,i32_w]
               rfl
              refine pure_ (i:=7) (N:=some 71) (v:=?_) (a':=?_) #[true,false,true,false,false,true,false,true,false,false,false,false,false,false] rfl rfl (any_of HT_.out (by kernel_rfl)) (fun _ _ _ h=>h) (Or.inl ⟨by rfl,?_⟩) ?_ ?_
              rotate_left
              ·intro w'
               go_simp
               with_reducible rfl
              rotate_left
              ·simp only [Act.put,sI_,sZ_,sS_,i64_w,i32_w]
               rfl
              refine take_ (i:=1) (N:=some 65) (v:=?_) (a':=?_) #[true,true,true,false,false,true,false,true,false,false,false,false,false,false] rfl rfl (take_ofW HT_.out HW_.out (by kernel_rfl)) (fun _ _ _ h=>h) (Or.inl ⟨by rfl,?_⟩) hHeld ?_ ?_
              rotate_left
              ·rintro w' ⟨s0,s1,s2,s3,s4,s5,s6,s7,s8,s9,s10,s11,s12,s13⟩
               go_simp
               with_reducible rfl
              rotate_left
              ·simp only [Act.put,sI_,sZ_,sS_,i64_w,i32_w]
               rfl
              refine pure_ (i:=3) (N:=some 67) (v:=?_) (a':=?_) #[true,true,true,true,false,true,false,true,false,false,false,false,false,false] rfl rfl (any_of HT_.out (by kernel_rfl)) (fun _ _ _ h=>h) (Or.inl ⟨by rfl,?_⟩) ?_ ?_
              rotate_left
              ·intro w'
               go_simp
               with_reducible rfl
              rotate_left
              ·simp only [Act.put,sI_,sZ_,sS_,i64_w,i32_w]
               rfl
              refine take_ (i:=4) (N:=some 68) (v:=?_) (a':=?_) #[true,true,true,true,true,true,false,true,false,false,false,false,false,false] rfl rfl (take_ofW HT_.out HW_.out (by kernel_rfl)) (fun _ _ _ h=>h) (Or.inl ⟨by rfl,?_⟩) hHeld ?_ ?_
              rotate_left
              ·rintro w' ⟨s0,s1,s2,s3,s4,s5,s6,s7,s8,s9,s10,s11,s12,s13⟩
               go_simp
               with_reducible rfl
              rotate_left
              ·simp only [Act.put,sI_,sZ_,sS_,i64_w,i32_w]
               rfl
              refine take_ (i:=6) (N:=some 70) (v:=?_) (a':=?_) (tb_ 8 6) rfl rfl (take_ofW HT_.out HW_.out (by kernel_rfl)) (fun _ _ _ h=>h) (Or.inl ⟨by rfl,?_⟩) hHeld ?_ ?_
              rotate_left
              ·rintro w' ⟨s0,s1,s2,s3,s4,s5,s6,s7,s8,s9,s10,s11,s12,s13⟩
               go_simp
               with_reducible rfl
              rotate_left
              ·simp only [Act.put,sI_,sZ_,sS_,i64_w,i32_w]
               rfl
              refine pure_ (i:=8) (N:=some 72) (v:=?_) (a':=?_) (tb_ 9 5) rfl rfl (any_of HT_.out (by kernel_rfl)) (fun _ _ _ h=>h) (Or.inl ⟨by rfl,?_⟩) ?_ ?_
              rotate_left
              ·intro w'
               go_simp
               with_reducible rfl
              rotate_left
              ·simp only [Act.put,sI_,sZ_,sS_,i64_w,i32_w]
               rfl
              refine take_ (i:=9) (N:=some 73) (v:=?_) (a':=?_) (tb_ 10 4) rfl rfl (take_ofW HT_.out HW_.out (by kernel_rfl)) (fun _ _ _ h=>h) (Or.inl ⟨by rfl,?_⟩) hHeld ?_ ?_
              rotate_left
              ·rintro w' ⟨s0,s1,s2,s3,s4,s5,s6,s7,s8,s9,s10,s11,s12,s13⟩
               go_simp
               with_reducible rfl
              rotate_left
              ·simp only [Act.put,sI_,sZ_,sS_,i64_w,i32_w]
               rfl
              refine join_ (σ:=Nat × Nat) 2 (tb_ 12 2) (fun s_=>[(7,.pointer (some ⟨s_.1,0,none⟩)),(8,.pointer (some ⟨s_.2,0,none⟩))]) (fun s_ w'=>(w'.cell? ⟨gb175,0,none⟩ = some (.string a0_0) ∧ w'.cell? ⟨gb175,1,none⟩ = some (.slice A0_1 l0_1.length c0_1) ∧ w'.cell? ⟨gb175,2,none⟩ = some (.slice A0_2 l0_2.length c0_2) ∧ w'.cell? ⟨gb175,3,none⟩ = some (.slice (some ad180) l0_3.length c0_3) ∧ w'.cell? ⟨gb176,0,none⟩ = some (.string a1_0) ∧ w'.cell? ⟨gb176,1,none⟩ = some (.slice A1_1 l1_1.length c1_1) ∧ w'.cell? ⟨gb176,2,none⟩ = some (.slice A1_2 l1_2.length c1_2) ∧ w'.cell? ⟨gb176,3,none⟩ = some (.slice (some ad181) l1_3.length c1_3) ∧ w'.cell? (ad180.add ((x61_3).toNat * 3)) = some (.string ((rd_T148 l0_3 x61_3).f0)) ∧ w'.cell? ⟨(ad180.add ((x61_3).toNat * 3)).block,(ad180.add ((x61_3).toNat * 3)).off + 1,none⟩ = some (.bool ((rd_T148 l0_3 x61_3).f1)) ∧ w'.cell? ⟨(ad180.add ((x61_3).toNat * 3)).block,(ad180.add ((x61_3).toNat * 3)).off + 2,none⟩ = some (.slice A180_2 ((rd_T148 l0_3 x61_3).f2).length c180_2) ∧ w'.cell? (ad181.add ((x61_3).toNat * 3)) = some (.string ((rd_T148 l1_3 x61_3).f0)) ∧ w'.cell? ⟨(ad181.add ((x61_3).toNat * 3)).block,(ad181.add ((x61_3).toNat * 3)).off + 1,none⟩ = some (.bool ((rd_T148 l1_3 x61_3).f1)) ∧ w'.cell? ⟨(ad181.add ((x61_3).toNat * 3)).block,(ad181.add ((x61_3).toNat * 3)).off + 2,none⟩ = some (.slice A181_2 ((rd_T148 l1_3 x61_3).f2).length c181_2)) ∧ (w'.heap[gb175]? = some (.cells #[.string a0_0,.slice A0_1 l0_1.length c0_1,.slice A0_2 l0_2.length c0_2,.slice (some ad180) l0_3.length c0_3] 87 (0,0))) ∧ (w'.heap[gb176]? = some (.cells #[.string a1_0,.slice A1_1 l1_1.length c1_1,.slice A1_2 l1_2.length c1_2,.slice (some ad181) l1_3.length c1_3] 87 (0,0))) ∧ (w'.heap[s_.1]? = some (.cells #[.string (⟨#[]⟩ : ByteArray),.bool false,.slice none 0 0] 148 (0,0))) ∧ (w'.heap[s_.2]? = some (.cells #[.string (⟨#[]⟩ : ByteArray),.bool false,.slice none 0 0] 148 (0,0))) ∧ (w.heap.size ≤ s_.1) ∧ (w.heap.size ≤ s_.1) ∧ (gb175 ≠ s_.1) ∧ (s_.1 ≠ gb175) ∧ (gb176 ≠ s_.1) ∧ (s_.1 ≠ gb176) ∧ (s_.2 ≠ s_.1) ∧ (s_.1 ≠ s_.2) ∧ (w.heap.size ≤ s_.2) ∧ (w.heap.size ≤ s_.2) ∧ (gb175 ≠ s_.2) ∧ (s_.2 ≠ gb175) ∧ (gb176 ≠ s_.2) ∧ (s_.2 ≠ gb176) ∧ (Below w.heap.size w w')) ?_ ?_
              rotate_left
              ·intro hCont
               refine two_ (i:=10) (j:=11) (Ni:=some 7) (Nj:=some 8) (tb_ 11 3) #[true,true,true,true,true,true,true,true,true,true,false,true,false,false] rfl rfl rfl rfl (two_of HT_.out (by kernel_rfl)) (by decide) (by decide) (fun K hK=>?_) (fun K hK=>?_)
               ·skip
                refine box_step ?hg (N:=7) ?hd (cs:=#[.string (⟨#[]⟩ : ByteArray),.bool false,.slice none 0 0]) (t:=148) ?hr ?_;(case hd=>rfl);(case hg=>rfl);(case hr=>first | (go_simp;done) | (go_simp;rfl))
                intro gb182 hg w94 hbox hb
                have n0_:=aM_ (blk_below (g:=gb175) (o:=.cells #[.string a0_0,.slice A0_1 l0_1.length c0_1,.slice A0_2 l0_2.length c0_2,.slice (some ad180) l0_3.length c0_3] 87 (0,0)) (by exact kZ_ BK175) hb)
                have n1_:=aM_ (blk_below (g:=gb176) (o:=.cells #[.string a1_0,.slice A1_1 l1_1.length c1_1,.slice A1_2 l1_2.length c1_2,.slice (some ad181) l1_3.length c1_3] 87 (0,0)) (by exact kZ_ BK176) hb)
                have n2_:=aM_ (bT_ (by exact bZ_ HB) hb)
                have n3_:=aM_ (hbox)
                have n4_:=aM_ ((by rw [hg];exact (bS_ (by exact bZ_ HB)) : w.heap.size ≤ gb182))
                have n5_:=aM_ ((by rw [hg];exact (bS_ (by exact bZ_ HB)) : w.heap.size ≤ gb182))
                have n6_:=aM_ ((by rw [hg];exact nN_ (blk_lt (g:=gb175) (o:=.cells #[.string a0_0,.slice A0_1 l0_1.length c0_1,.slice A0_2 l0_2.length c0_2,.slice (some ad180) l0_3.length c0_3] 87 (0,0)) (by exact kZ_ BK175)) : gb175 ≠ gb182))
                have n7_:=aM_ ((by rw [hg];exact Nat.ne_of_gt (blk_lt (g:=gb175) (o:=.cells #[.string a0_0,.slice A0_1 l0_1.length c0_1,.slice A0_2 l0_2.length c0_2,.slice (some ad180) l0_3.length c0_3] 87 (0,0)) (by exact kZ_ BK175)) : gb182 ≠ gb175))
                have n8_:=aM_ ((by rw [hg];exact nN_ (blk_lt (g:=gb176) (o:=.cells #[.string a1_0,.slice A1_1 l1_1.length c1_1,.slice A1_2 l1_2.length c1_2,.slice (some ad181) l1_3.length c1_3] 87 (0,0)) (by exact kZ_ BK176)) : gb176 ≠ gb182))
                have n9_:=aM_ ((by rw [hg];exact Nat.ne_of_gt (blk_lt (g:=gb176) (o:=.cells #[.string a1_0,.slice A1_1 l1_1.length c1_1,.slice A1_2 l1_2.length c1_2,.slice (some ad181) l1_3.length c1_3] 87 (0,0)) (by exact kZ_ BK176)) : gb182 ≠ gb176))
                clear BK175 BK176 HB
                have BK175:=n0_
                have BK176:=n1_
                have HB:=n2_
                have BK182:=n3_
                have GW182:=n4_
                have GE182:=n5_
                have NB175_182:=n6_
                have NB182_175:=n7_
                have NB176_182:=n8_
                have NB182_176:=n9_
                clear n0_ n1_ n2_ n3_ n4_ n5_ n6_ n7_ n8_ n9_ hb hbox hg
                refine hK.out _ _ ⟨(kC_ BK175.out 0).trans rfl,(kC_ BK175.out 1).trans rfl,(kC_ BK175.out 2).trans rfl,(kC_ BK175.out 3).trans rfl,(kC_ BK176.out 0).trans rfl,(kC_ BK176.out 1).trans rfl,(kC_ BK176.out 2).trans rfl,(kC_ BK176.out 3).trans rfl,((HB.out.cell (wL_ w _ hw180_0)).trans hw180_0),((HB.out.cell (wL_ w _ hw180_1)).trans hw180_1),((HB.out.cell (wL_ w _ hw180_2)).trans hw180_2),((HB.out.cell (wL_ w _ hw181_0)).trans hw181_0),((HB.out.cell (wL_ w _ hw181_1)).trans hw181_1),((HB.out.cell (wL_ w _ hw181_2)).trans hw181_2)⟩ (fun hHeld=>?_)
                clear hK K
                refine norm_ (a':=?_) ?_ ?_
                rotate_left
                ·show Act.put _ (some 7) _ = _
                 simp only [Act.put,sI_,sZ_,sS_,i64_w,i32_w]
                 rfl
                refine one_ (i:=11) (N:=some 8) (tb_ 12 2) rfl rfl (one_of HT_.out (by kernel_rfl)) (by decide) (fun K hK=>?_)
                refine box_step ?hg (N:=8) ?hd (cs:=#[.string (⟨#[]⟩ : ByteArray),.bool false,.slice none 0 0]) (t:=148) ?hr ?_;(case hd=>rfl);(case hg=>rfl);(case hr=>first | (go_simp;done) | (go_simp;rfl))
                intro gb183 hg w95 hbox hb
                have n0_:=aM_ (blk_below (g:=gb175) (o:=.cells #[.string a0_0,.slice A0_1 l0_1.length c0_1,.slice A0_2 l0_2.length c0_2,.slice (some ad180) l0_3.length c0_3] 87 (0,0)) (by exact kZ_ BK175) hb)
                have n1_:=aM_ (blk_below (g:=gb176) (o:=.cells #[.string a1_0,.slice A1_1 l1_1.length c1_1,.slice A1_2 l1_2.length c1_2,.slice (some ad181) l1_3.length c1_3] 87 (0,0)) (by exact kZ_ BK176) hb)
                have n2_:=aM_ (blk_below (g:=gb182) (o:=.cells #[.string (⟨#[]⟩ : ByteArray),.bool false,.slice none 0 0] 148 (0,0)) (by exact kZ_ BK182) hb)
                have n3_:=aM_ (bT_ (by exact bZ_ HB) hb)
                have n4_:=aM_ (hbox)
                have n5_:=aM_ ((by rw [hg];exact (bS_ (by exact bZ_ HB)) : w.heap.size ≤ gb183))
                have n6_:=aM_ ((by rw [hg];exact (bS_ (by exact bZ_ HB)) : w.heap.size ≤ gb183))
                have n7_:=aM_ ((by rw [hg];exact nN_ (blk_lt (g:=gb175) (o:=.cells #[.string a0_0,.slice A0_1 l0_1.length c0_1,.slice A0_2 l0_2.length c0_2,.slice (some ad180) l0_3.length c0_3] 87 (0,0)) (by exact kZ_ BK175)) : gb175 ≠ gb183))
                have n8_:=aM_ ((by rw [hg];exact Nat.ne_of_gt (blk_lt (g:=gb175) (o:=.cells #[.string a0_0,.slice A0_1 l0_1.length c0_1,.slice A0_2 l0_2.length c0_2,.slice (some ad180) l0_3.length c0_3] 87 (0,0)) (by exact kZ_ BK175)) : gb183 ≠ gb175))
                have n9_:=aM_ ((by rw [hg];exact nN_ (blk_lt (g:=gb176) (o:=.cells #[.string a1_0,.slice A1_1 l1_1.length c1_1,.slice A1_2 l1_2.length c1_2,.slice (some ad181) l1_3.length c1_3] 87 (0,0)) (by exact kZ_ BK176)) : gb176 ≠ gb183))
                have n10_:=aM_ ((by rw [hg];exact Nat.ne_of_gt (blk_lt (g:=gb176) (o:=.cells #[.string a1_0,.slice A1_1 l1_1.length c1_1,.slice A1_2 l1_2.length c1_2,.slice (some ad181) l1_3.length c1_3] 87 (0,0)) (by exact kZ_ BK176)) : gb183 ≠ gb176))
                have n11_:=aM_ ((by rw [hg];exact nN_ (blk_lt (g:=gb182) (o:=.cells #[.string (⟨#[]⟩ : ByteArray),.bool false,.slice none 0 0] 148 (0,0)) (by exact kZ_ BK182)) : gb182 ≠ gb183))
                have n12_:=aM_ ((by rw [hg];exact Nat.ne_of_gt (blk_lt (g:=gb182) (o:=.cells #[.string (⟨#[]⟩ : ByteArray),.bool false,.slice none 0 0] 148 (0,0)) (by exact kZ_ BK182)) : gb183 ≠ gb182))
                clear BK175 BK176 BK182 HB
                have BK175:=n0_
                have BK176:=n1_
                have BK182:=n2_
                have HB:=n3_
                have BK183:=n4_
                have GW183:=n5_
                have GE183:=n6_
                have NB175_183:=n7_
                have NB183_175:=n8_
                have NB176_183:=n9_
                have NB183_176:=n10_
                have NB182_183:=n11_
                have NB183_182:=n12_
                clear n0_ n1_ n2_ n3_ n4_ n5_ n6_ n7_ n8_ n9_ n10_ n11_ n12_ hb hbox hg
                refine hK.out _ _ ⟨(kC_ BK175.out 0).trans rfl,(kC_ BK175.out 1).trans rfl,(kC_ BK175.out 2).trans rfl,(kC_ BK175.out 3).trans rfl,(kC_ BK176.out 0).trans rfl,(kC_ BK176.out 1).trans rfl,(kC_ BK176.out 2).trans rfl,(kC_ BK176.out 3).trans rfl,((HB.out.cell (wL_ w _ hw180_0)).trans hw180_0),((HB.out.cell (wL_ w _ hw180_1)).trans hw180_1),((HB.out.cell (wL_ w _ hw180_2)).trans hw180_2),((HB.out.cell (wL_ w _ hw181_0)).trans hw181_0),((HB.out.cell (wL_ w _ hw181_1)).trans hw181_1),((HB.out.cell (wL_ w _ hw181_2)).trans hw181_2)⟩ (fun hHeld=>?_)
                clear hK K
                refine norm_ (a':=?_) ?_ ?_
                rotate_left
                ·show Act.put _ (some 8) _ = _
                 simp only [Act.put,sI_,sZ_,sS_,i64_w,i32_w]
                 rfl
                exact norm_ (by simp only [putAll,Act.put,sI_,sZ_,sS_]) (hCont (gb182,gb183) _ ⟨hHeld,(by exact kZ_ BK175),(by exact kZ_ BK176),(by exact kZ_ BK182),(by exact kZ_ BK183),GW182.out,GE182.out,NB175_182.out,NB182_175.out,NB176_182.out,NB182_176.out,NB183_182.out,NB182_183.out,GW183.out,GE183.out,NB175_183.out,NB183_175.out,NB176_183.out,NB183_176.out,(by exact bZ_ HB)⟩)
               ·skip
                refine box_step ?hg (N:=8) ?hd (cs:=#[.string (⟨#[]⟩ : ByteArray),.bool false,.slice none 0 0]) (t:=148) ?hr ?_;(case hd=>rfl);(case hg=>rfl);(case hr=>first | (go_simp;done) | (go_simp;rfl))
                intro gb183 hg w94 hbox hb
                have n0_:=aM_ (blk_below (g:=gb175) (o:=.cells #[.string a0_0,.slice A0_1 l0_1.length c0_1,.slice A0_2 l0_2.length c0_2,.slice (some ad180) l0_3.length c0_3] 87 (0,0)) (by exact kZ_ BK175) hb)
                have n1_:=aM_ (blk_below (g:=gb176) (o:=.cells #[.string a1_0,.slice A1_1 l1_1.length c1_1,.slice A1_2 l1_2.length c1_2,.slice (some ad181) l1_3.length c1_3] 87 (0,0)) (by exact kZ_ BK176) hb)
                have n2_:=aM_ (bT_ (by exact bZ_ HB) hb)
                have n3_:=aM_ (hbox)
                have n4_:=aM_ ((by rw [hg];exact (bS_ (by exact bZ_ HB)) : w.heap.size ≤ gb183))
                have n5_:=aM_ ((by rw [hg];exact (bS_ (by exact bZ_ HB)) : w.heap.size ≤ gb183))
                have n6_:=aM_ ((by rw [hg];exact nN_ (blk_lt (g:=gb175) (o:=.cells #[.string a0_0,.slice A0_1 l0_1.length c0_1,.slice A0_2 l0_2.length c0_2,.slice (some ad180) l0_3.length c0_3] 87 (0,0)) (by exact kZ_ BK175)) : gb175 ≠ gb183))
                have n7_:=aM_ ((by rw [hg];exact Nat.ne_of_gt (blk_lt (g:=gb175) (o:=.cells #[.string a0_0,.slice A0_1 l0_1.length c0_1,.slice A0_2 l0_2.length c0_2,.slice (some ad180) l0_3.length c0_3] 87 (0,0)) (by exact kZ_ BK175)) : gb183 ≠ gb175))
                have n8_:=aM_ ((by rw [hg];exact nN_ (blk_lt (g:=gb176) (o:=.cells #[.string a1_0,.slice A1_1 l1_1.length c1_1,.slice A1_2 l1_2.length c1_2,.slice (some ad181) l1_3.length c1_3] 87 (0,0)) (by exact kZ_ BK176)) : gb176 ≠ gb183))
                have n9_:=aM_ ((by rw [hg];exact Nat.ne_of_gt (blk_lt (g:=gb176) (o:=.cells #[.string a1_0,.slice A1_1 l1_1.length c1_1,.slice A1_2 l1_2.length c1_2,.slice (some ad181) l1_3.length c1_3] 87 (0,0)) (by exact kZ_ BK176)) : gb183 ≠ gb176))
                clear BK175 BK176 HB
                have BK175:=n0_
                have BK176:=n1_
                have HB:=n2_
                have BK183:=n3_
                have GW183:=n4_
                have GE183:=n5_
                have NB175_183:=n6_
                have NB183_175:=n7_
                have NB176_183:=n8_
                have NB183_176:=n9_
                clear n0_ n1_ n2_ n3_ n4_ n5_ n6_ n7_ n8_ n9_ hb hbox hg
                refine hK.out _ _ ⟨(kC_ BK175.out 0).trans rfl,(kC_ BK175.out 1).trans rfl,(kC_ BK175.out 2).trans rfl,(kC_ BK175.out 3).trans rfl,(kC_ BK176.out 0).trans rfl,(kC_ BK176.out 1).trans rfl,(kC_ BK176.out 2).trans rfl,(kC_ BK176.out 3).trans rfl,((HB.out.cell (wL_ w _ hw180_0)).trans hw180_0),((HB.out.cell (wL_ w _ hw180_1)).trans hw180_1),((HB.out.cell (wL_ w _ hw180_2)).trans hw180_2),((HB.out.cell (wL_ w _ hw181_0)).trans hw181_0),((HB.out.cell (wL_ w _ hw181_1)).trans hw181_1),((HB.out.cell (wL_ w _ hw181_2)).trans hw181_2)⟩ (fun hHeld=>?_)
                clear hK K
                refine norm_ (a':=?_) ?_ ?_
                rotate_left
                ·show Act.put _ (some 8) _ = _
                 simp only [Act.put,sI_,sZ_,sS_,i64_w,i32_w]
                 rfl
                refine one_ (i:=10) (N:=some 7) (tb_ 12 2) rfl rfl (one_of HT_.out (by kernel_rfl)) (by decide) (fun K hK=>?_)
                refine box_step ?hg (N:=7) ?hd (cs:=#[.string (⟨#[]⟩ : ByteArray),.bool false,.slice none 0 0]) (t:=148) ?hr ?_;(case hd=>rfl);(case hg=>rfl);(case hr=>first | (go_simp;done) | (go_simp;rfl))
                intro gb182 hg w95 hbox hb
                have n0_:=aM_ (blk_below (g:=gb175) (o:=.cells #[.string a0_0,.slice A0_1 l0_1.length c0_1,.slice A0_2 l0_2.length c0_2,.slice (some ad180) l0_3.length c0_3] 87 (0,0)) (by exact kZ_ BK175) hb)
                have n1_:=aM_ (blk_below (g:=gb176) (o:=.cells #[.string a1_0,.slice A1_1 l1_1.length c1_1,.slice A1_2 l1_2.length c1_2,.slice (some ad181) l1_3.length c1_3] 87 (0,0)) (by exact kZ_ BK176) hb)
                have n2_:=aM_ (blk_below (g:=gb183) (o:=.cells #[.string (⟨#[]⟩ : ByteArray),.bool false,.slice none 0 0] 148 (0,0)) (by exact kZ_ BK183) hb)
                have n3_:=aM_ (bT_ (by exact bZ_ HB) hb)
                have n4_:=aM_ (hbox)
                have n5_:=aM_ ((by rw [hg];exact (bS_ (by exact bZ_ HB)) : w.heap.size ≤ gb182))
                have n6_:=aM_ ((by rw [hg];exact (bS_ (by exact bZ_ HB)) : w.heap.size ≤ gb182))
                have n7_:=aM_ ((by rw [hg];exact nN_ (blk_lt (g:=gb175) (o:=.cells #[.string a0_0,.slice A0_1 l0_1.length c0_1,.slice A0_2 l0_2.length c0_2,.slice (some ad180) l0_3.length c0_3] 87 (0,0)) (by exact kZ_ BK175)) : gb175 ≠ gb182))
                have n8_:=aM_ ((by rw [hg];exact Nat.ne_of_gt (blk_lt (g:=gb175) (o:=.cells #[.string a0_0,.slice A0_1 l0_1.length c0_1,.slice A0_2 l0_2.length c0_2,.slice (some ad180) l0_3.length c0_3] 87 (0,0)) (by exact kZ_ BK175)) : gb182 ≠ gb175))
                have n9_:=aM_ ((by rw [hg];exact nN_ (blk_lt (g:=gb176) (o:=.cells #[.string a1_0,.slice A1_1 l1_1.length c1_1,.slice A1_2 l1_2.length c1_2,.slice (some ad181) l1_3.length c1_3] 87 (0,0)) (by exact kZ_ BK176)) : gb176 ≠ gb182))
                have n10_:=aM_ ((by rw [hg];exact Nat.ne_of_gt (blk_lt (g:=gb176) (o:=.cells #[.string a1_0,.slice A1_1 l1_1.length c1_1,.slice A1_2 l1_2.length c1_2,.slice (some ad181) l1_3.length c1_3] 87 (0,0)) (by exact kZ_ BK176)) : gb182 ≠ gb176))
                have n11_:=aM_ ((by rw [hg];exact nN_ (blk_lt (g:=gb183) (o:=.cells #[.string (⟨#[]⟩ : ByteArray),.bool false,.slice none 0 0] 148 (0,0)) (by exact kZ_ BK183)) : gb183 ≠ gb182))
                have n12_:=aM_ ((by rw [hg];exact Nat.ne_of_gt (blk_lt (g:=gb183) (o:=.cells #[.string (⟨#[]⟩ : ByteArray),.bool false,.slice none 0 0] 148 (0,0)) (by exact kZ_ BK183)) : gb182 ≠ gb183))
                clear BK175 BK176 BK183 HB
                have BK175:=n0_
                have BK176:=n1_
                have BK183:=n2_
                have HB:=n3_
                have BK182:=n4_
                have GW182:=n5_
                have GE182:=n6_
                have NB175_182:=n7_
                have NB182_175:=n8_
                have NB176_182:=n9_
                have NB182_176:=n10_
                have NB183_182:=n11_
                have NB182_183:=n12_
                clear n0_ n1_ n2_ n3_ n4_ n5_ n6_ n7_ n8_ n9_ n10_ n11_ n12_ hb hbox hg
                refine hK.out _ _ ⟨(kC_ BK175.out 0).trans rfl,(kC_ BK175.out 1).trans rfl,(kC_ BK175.out 2).trans rfl,(kC_ BK175.out 3).trans rfl,(kC_ BK176.out 0).trans rfl,(kC_ BK176.out 1).trans rfl,(kC_ BK176.out 2).trans rfl,(kC_ BK176.out 3).trans rfl,((HB.out.cell (wL_ w _ hw180_0)).trans hw180_0),((HB.out.cell (wL_ w _ hw180_1)).trans hw180_1),((HB.out.cell (wL_ w _ hw180_2)).trans hw180_2),((HB.out.cell (wL_ w _ hw181_0)).trans hw181_0),((HB.out.cell (wL_ w _ hw181_1)).trans hw181_1),((HB.out.cell (wL_ w _ hw181_2)).trans hw181_2)⟩ (fun hHeld=>?_)
                clear hK K
                refine norm_ (a':=?_) ?_ ?_
                rotate_left
                ·show Act.put _ (some 7) _ = _
                 simp only [Act.put,sI_,sZ_,sS_,i64_w,i32_w]
                 rfl
                exact norm_ (by simp only [putAll,Act.put,sI_,sZ_,sS_]) (hCont (gb182,gb183) _ ⟨hHeld,(by exact kZ_ BK175),(by exact kZ_ BK176),(by exact kZ_ BK182),(by exact kZ_ BK183),GW182.out,GE182.out,NB175_182.out,NB182_175.out,NB176_182.out,NB182_176.out,NB183_182.out,NB182_183.out,GW183.out,GE183.out,NB175_183.out,NB183_175.out,NB176_183.out,NB183_176.out,(by exact bZ_ HB)⟩)
              rintro ⟨gb182,gb183⟩ w96 ⟨hS_,h0_,h1_,h2_,h3_,h4_,h5_,h6_,h7_,h8_,h9_,h10_,h11_,h12_,h13_,h14_,h15_,h16_,h17_,h18_⟩
              have n0_ : Aside0 (w96.heap[gb175]? = some (.cells #[.string a0_0,.slice A0_1 l0_1.length c0_1,.slice A0_2 l0_2.length c0_2,.slice (some ad180) l0_3.length c0_3] 87 (0,0))):=⟨h0_⟩
              have n1_ : Aside0 (w96.heap[gb176]? = some (.cells #[.string a1_0,.slice A1_1 l1_1.length c1_1,.slice A1_2 l1_2.length c1_2,.slice (some ad181) l1_3.length c1_3] 87 (0,0))):=⟨h1_⟩
              have n2_ : Aside0 (w96.heap[gb182]? = some (.cells #[.string (⟨#[]⟩ : ByteArray),.bool false,.slice none 0 0] 148 (0,0))):=⟨h2_⟩
              have n3_ : Aside0 (w96.heap[gb183]? = some (.cells #[.string (⟨#[]⟩ : ByteArray),.bool false,.slice none 0 0] 148 (0,0))):=⟨h3_⟩
              have n4_ : Aside0 (w.heap.size ≤ gb182):=⟨h4_⟩
              have n5_ : Aside0 (w.heap.size ≤ gb182):=⟨h5_⟩
              have n6_ : Aside0 (gb175 ≠ gb182):=⟨h6_⟩
              have n7_ : Aside0 (gb182 ≠ gb175):=⟨h7_⟩
              have n8_ : Aside0 (gb176 ≠ gb182):=⟨h8_⟩
              have n9_ : Aside0 (gb182 ≠ gb176):=⟨h9_⟩
              have n10_ : Aside0 (gb183 ≠ gb182):=⟨h10_⟩
              have n11_ : Aside0 (gb182 ≠ gb183):=⟨h11_⟩
              have n12_ : Aside0 (w.heap.size ≤ gb183):=⟨h12_⟩
              have n13_ : Aside0 (w.heap.size ≤ gb183):=⟨h13_⟩
              have n14_ : Aside0 (gb175 ≠ gb183):=⟨h14_⟩
              have n15_ : Aside0 (gb183 ≠ gb175):=⟨h15_⟩
              have n16_ : Aside0 (gb176 ≠ gb183):=⟨h16_⟩
              have n17_ : Aside0 (gb183 ≠ gb176):=⟨h17_⟩
              have n18_ : Aside0 (Below w.heap.size w w96):=⟨h18_⟩
              clear BK175 BK176 HB h0_ h1_ h2_ h3_ h4_ h5_ h6_ h7_ h8_ h9_ h10_ h11_ h12_ h13_ h14_ h15_ h16_ h17_ h18_
              have BK175:=n0_
              have BK176:=n1_
              have BK182:=n2_
              have BK183:=n3_
              have GW182:=n4_
              have GE182:=n5_
              have NB175_182:=n6_
              have NB182_175:=n7_
              have NB176_182:=n8_
              have NB182_176:=n9_
              have NB183_182:=n10_
              have NB182_183:=n11_
              have GW183:=n12_
              have GE183:=n13_
              have NB175_183:=n14_
              have NB183_175:=n15_
              have NB176_183:=n16_
              have NB183_176:=n17_
              have HB:=n18_
              clear n0_ n1_ n2_ n3_ n4_ n5_ n6_ n7_ n8_ n9_ n10_ n11_ n12_ n13_ n14_ n15_ n16_ n17_ n18_
              have hHeld : w96.cell? ⟨gb175,0,none⟩ = some (.string a0_0) ∧ w96.cell? ⟨gb175,1,none⟩ = some (.slice A0_1 l0_1.length c0_1) ∧ w96.cell? ⟨gb175,2,none⟩ = some (.slice A0_2 l0_2.length c0_2) ∧ w96.cell? ⟨gb175,3,none⟩ = some (.slice (some ad180) l0_3.length c0_3) ∧ w96.cell? ⟨gb176,0,none⟩ = some (.string a1_0) ∧ w96.cell? ⟨gb176,1,none⟩ = some (.slice A1_1 l1_1.length c1_1) ∧ w96.cell? ⟨gb176,2,none⟩ = some (.slice A1_2 l1_2.length c1_2) ∧ w96.cell? ⟨gb176,3,none⟩ = some (.slice (some ad181) l1_3.length c1_3) ∧ w96.cell? (ad180.add ((x61_3).toNat * 3)) = some (.string ((rd_T148 l0_3 x61_3).f0)) ∧ w96.cell? ⟨(ad180.add ((x61_3).toNat * 3)).block,(ad180.add ((x61_3).toNat * 3)).off + 1,none⟩ = some (.bool ((rd_T148 l0_3 x61_3).f1)) ∧ w96.cell? ⟨(ad180.add ((x61_3).toNat * 3)).block,(ad180.add ((x61_3).toNat * 3)).off + 2,none⟩ = some (.slice A180_2 ((rd_T148 l0_3 x61_3).f2).length c180_2) ∧ w96.cell? (ad181.add ((x61_3).toNat * 3)) = some (.string ((rd_T148 l1_3 x61_3).f0)) ∧ w96.cell? ⟨(ad181.add ((x61_3).toNat * 3)).block,(ad181.add ((x61_3).toNat * 3)).off + 1,none⟩ = some (.bool ((rd_T148 l1_3 x61_3).f1)) ∧ w96.cell? ⟨(ad181.add ((x61_3).toNat * 3)).block,(ad181.add ((x61_3).toNat * 3)).off + 2,none⟩ = some (.slice A181_2 ((rd_T148 l1_3 x61_3).f2).length c181_2):=hS_
              refine norm_ (a':=?_) ?_ ?_
              rotate_left
              ·simp only [putAll,Act.put,sI_,sZ_,sS_]
               rfl
              refine one_ (i:=12) (N:=none) (tb_ 13 1) rfl rfl (one_of HT_.out (by kernel_rfl)) (by decide) (fun K hK=>?_)
              have hs97 : w96.cell? ⟨gb182,0,none⟩ = some (.string (⟨#[]⟩ : ByteArray)):=(kC_ BK182.out 0).trans rfl
              have hfs97:=kF_ BK182.out 0
              have hns97_0:=NB175_182.out
              have hns97_1:=NB176_182.out
              have hns97_3:=NB183_182.out
              have hms97_0:=NB182_175.out
              have hms97_1:=NB182_176.out
              have hms97_3:=NB182_183.out
              have hs98 : w96.cell? ⟨gb182,1,none⟩ = some (.bool false):=(kC_ BK182.out 1).trans rfl
              have hfs98:=kF_ BK182.out 1
              have hns98_0:=NB175_182.out
              have hns98_1:=NB176_182.out
              have hns98_3:=NB183_182.out
              have hms98_0:=NB182_175.out
              have hms98_1:=NB182_176.out
              have hms98_3:=NB182_183.out
              have hs99 : w96.cell? ⟨gb182,2,none⟩ = some (.slice none 0 0):=(kC_ BK182.out 2).trans rfl
              have hfs99:=kF_ BK182.out 2
              have hns99_0:=NB175_182.out
              have hns99_1:=NB176_182.out
              have hns99_3:=NB183_182.out
              have hms99_0:=NB182_175.out
              have hms99_1:=NB182_176.out
              have hms99_3:=NB182_183.out
              refine skip_ (w1:=?_) (by rfl) rfl ?_ ?_
              rotate_left
              ·go_simp
               rfl
              refine hK.out _ _ ⟨((cell_far (p:=⟨gb182,_,none⟩) NB175_182.out _).trans (((cell_far (p:=⟨gb182,_,none⟩) NB175_182.out _).trans (((cell_far (p:=⟨gb182,_,none⟩) NB175_182.out _).trans (hHeld.1)))))),((cell_far (p:=⟨gb182,_,none⟩) NB175_182.out _).trans (((cell_far (p:=⟨gb182,_,none⟩) NB175_182.out _).trans (((cell_far (p:=⟨gb182,_,none⟩) NB175_182.out _).trans (hHeld.2.1)))))),((cell_far (p:=⟨gb182,_,none⟩) NB175_182.out _).trans (((cell_far (p:=⟨gb182,_,none⟩) NB175_182.out _).trans (((cell_far (p:=⟨gb182,_,none⟩) NB175_182.out _).trans (hHeld.2.2.1)))))),((cell_far (p:=⟨gb182,_,none⟩) NB175_182.out _).trans (((cell_far (p:=⟨gb182,_,none⟩) NB175_182.out _).trans (((cell_far (p:=⟨gb182,_,none⟩) NB175_182.out _).trans (hHeld.2.2.2.1)))))),((cell_far (p:=⟨gb182,_,none⟩) NB176_182.out _).trans (((cell_far (p:=⟨gb182,_,none⟩) NB176_182.out _).trans (((cell_far (p:=⟨gb182,_,none⟩) NB176_182.out _).trans (hHeld.2.2.2.2.1)))))),((cell_far (p:=⟨gb182,_,none⟩) NB176_182.out _).trans (((cell_far (p:=⟨gb182,_,none⟩) NB176_182.out _).trans (((cell_far (p:=⟨gb182,_,none⟩) NB176_182.out _).trans (hHeld.2.2.2.2.2.1)))))),((cell_far (p:=⟨gb182,_,none⟩) NB176_182.out _).trans (((cell_far (p:=⟨gb182,_,none⟩) NB176_182.out _).trans (((cell_far (p:=⟨gb182,_,none⟩) NB176_182.out _).trans (hHeld.2.2.2.2.2.2.1)))))),((cell_far (p:=⟨gb182,_,none⟩) NB176_182.out _).trans (((cell_far (p:=⟨gb182,_,none⟩) NB176_182.out _).trans (((cell_far (p:=⟨gb182,_,none⟩) NB176_182.out _).trans (hHeld.2.2.2.2.2.2.2.1)))))),((cell_far (p:=⟨gb182,_,none⟩) (by first | exact nN_ (nL_ (by have:=wL_ _ _ hw180_0;first | rwa [add_block] at this | exact this) GW182.out) | (rw [add_block];exact nN_ (nL_ (by have:=wL_ _ _ hw180_0;first | rwa [add_block] at this | exact this) GW182.out)) | (show (Addr.add _ _).block ≠ _;rw [add_block];exact nN_ (nL_ (by have:=wL_ _ _ hw180_0;first | rwa [add_block] at this | exact this) GW182.out)) | (dsimp only;exact nN_ (nL_ (by have:=wL_ _ _ hw180_0;first | rwa [add_block] at this | exact this) GW182.out))) _).trans (((cell_far (p:=⟨gb182,_,none⟩) (by first | exact nN_ (nL_ (by have:=wL_ _ _ hw180_0;first | rwa [add_block] at this | exact this) GW182.out) | (rw [add_block];exact nN_ (nL_ (by have:=wL_ _ _ hw180_0;first | rwa [add_block] at this | exact this) GW182.out)) | (show (Addr.add _ _).block ≠ _;rw [add_block];exact nN_ (nL_ (by have:=wL_ _ _ hw180_0;first | rwa [add_block] at this | exact this) GW182.out)) | (dsimp only;exact nN_ (nL_ (by have:=wL_ _ _ hw180_0;first | rwa [add_block] at this | exact this) GW182.out))) _).trans (((cell_far (p:=⟨gb182,_,none⟩) (by first | exact nN_ (nL_ (by have:=wL_ _ _ hw180_0;first | rwa [add_block] at this | exact this) GW182.out) | (rw [add_block];exact nN_ (nL_ (by have:=wL_ _ _ hw180_0;first | rwa [add_block] at this | exact this) GW182.out)) | (show (Addr.add _ _).block ≠ _;rw [add_block];exact nN_ (nL_ (by have:=wL_ _ _ hw180_0;first | rwa [add_block] at this | exact this) GW182.out)) | (dsimp only;exact nN_ (nL_ (by have:=wL_ _ _ hw180_0;first | rwa [add_block] at this | exact this) GW182.out))) _).trans (hHeld.2.2.2.2.2.2.2.2.1)))))),((cell_far (p:=⟨gb182,_,none⟩) (by first | exact nN_ (nL_ (by have:=wL_ _ _ hw180_1;first | rwa [add_block] at this | exact this) GW182.out) | (rw [add_block];exact nN_ (nL_ (by have:=wL_ _ _ hw180_1;first | rwa [add_block] at this | exact this) GW182.out)) | (show (Addr.add _ _).block ≠ _;rw [add_block];exact nN_ (nL_ (by have:=wL_ _ _ hw180_1;first | rwa [add_block] at this | exact this) GW182.out)) | (dsimp only;exact nN_ (nL_ (by have:=wL_ _ _ hw180_1;first | rwa [add_block] at this | exact this) GW182.out))) _).trans (((cell_far (p:=⟨gb182,_,none⟩) (by first | exact nN_ (nL_ (by have:=wL_ _ _ hw180_1;first | rwa [add_block] at this | exact this) GW182.out) | (rw [add_block];exact nN_ (nL_ (by have:=wL_ _ _ hw180_1;first | rwa [add_block] at this | exact this) GW182.out)) | (show (Addr.add _ _).block ≠ _;rw [add_block];exact nN_ (nL_ (by have:=wL_ _ _ hw180_1;first | rwa [add_block] at this | exact this) GW182.out)) | (dsimp only;exact nN_ (nL_ (by have:=wL_ _ _ hw180_1;first | rwa [add_block] at this | exact this) GW182.out))) _).trans (((cell_far (p:=⟨gb182,_,none⟩) (by first | exact nN_ (nL_ (by have:=wL_ _ _ hw180_1;first | rwa [add_block] at this | exact this) GW182.out) | (rw [add_block];exact nN_ (nL_ (by have:=wL_ _ _ hw180_1;first | rwa [add_block] at this | exact this) GW182.out)) | (show (Addr.add _ _).block ≠ _;rw [add_block];exact nN_ (nL_ (by have:=wL_ _ _ hw180_1;first | rwa [add_block] at this | exact this) GW182.out)) | (dsimp only;exact nN_ (nL_ (by have:=wL_ _ _ hw180_1;first | rwa [add_block] at this | exact this) GW182.out))) _).trans (hHeld.2.2.2.2.2.2.2.2.2.1)))))),((cell_far (p:=⟨gb182,_,none⟩) (by first | exact nN_ (nL_ (by have:=wL_ _ _ hw180_2;first | rwa [add_block] at this | exact this) GW182.out) | (rw [add_block];exact nN_ (nL_ (by have:=wL_ _ _ hw180_2;first | rwa [add_block] at this | exact this) GW182.out)) | (show (Addr.add _ _).block ≠ _;rw [add_block];exact nN_ (nL_ (by have:=wL_ _ _ hw180_2;first | rwa [add_block] at this | exact this) GW182.out)) | (dsimp only;exact nN_ (nL_ (by have:=wL_ _ _ hw180_2;first | rwa [add_block] at this | exact this) GW182.out))) _).trans (((cell_far (p:=⟨gb182,_,none⟩) (by first | exact nN_ (nL_ (by have:=wL_ _ _ hw180_2;first | rwa [add_block] at this | exact this) GW182.out) | (rw [add_block];exact nN_ (nL_ (by have:=wL_ _ _ hw180_2;first | rwa [add_block] at this | exact this) GW182.out)) | (show (Addr.add _ _).block ≠ _;rw [add_block];exact nN_ (nL_ (by have:=wL_ _ _ hw180_2;first | rwa [add_block] at this | exact this) GW182.out)) | (dsimp only;exact nN_ (nL_ (by have:=wL_ _ _ hw180_2;first | rwa [add_block] at this | exact this) GW182.out))) _).trans (((cell_far (p:=⟨gb182,_,none⟩) (by first | exact nN_ (nL_ (by have:=wL_ _ _ hw180_2;first | rwa [add_block] at this | exact this) GW182.out) | (rw [add_block];exact nN_ (nL_ (by have:=wL_ _ _ hw180_2;first | rwa [add_block] at this | exact this) GW182.out)) | (show (Addr.add _ _).block ≠ _;rw [add_block];exact nN_ (nL_ (by have:=wL_ _ _ hw180_2;first | rwa [add_block] at this | exact this) GW182.out)) | (dsimp only;exact nN_ (nL_ (by have:=wL_ _ _ hw180_2;first | rwa [add_block] at this | exact this) GW182.out))) _).trans (hHeld.2.2.2.2.2.2.2.2.2.2.1)))))),((cell_far (p:=⟨gb182,_,none⟩) (by first | exact nN_ (nL_ (by have:=wL_ _ _ hw181_0;first | rwa [add_block] at this | exact this) GW182.out) | (rw [add_block];exact nN_ (nL_ (by have:=wL_ _ _ hw181_0;first | rwa [add_block] at this | exact this) GW182.out)) | (show (Addr.add _ _).block ≠ _;rw [add_block];exact nN_ (nL_ (by have:=wL_ _ _ hw181_0;first | rwa [add_block] at this | exact this) GW182.out)) | (dsimp only;exact nN_ (nL_ (by have:=wL_ _ _ hw181_0;first | rwa [add_block] at this | exact this) GW182.out))) _).trans (((cell_far (p:=⟨gb182,_,none⟩) (by first | exact nN_ (nL_ (by have:=wL_ _ _ hw181_0;first | rwa [add_block] at this | exact this) GW182.out) | (rw [add_block];exact nN_ (nL_ (by have:=wL_ _ _ hw181_0;first | rwa [add_block] at this | exact this) GW182.out)) | (show (Addr.add _ _).block ≠ _;rw [add_block];exact nN_ (nL_ (by have:=wL_ _ _ hw181_0;first | rwa [add_block] at this | exact this) GW182.out)) | (dsimp only;exact nN_ (nL_ (by have:=wL_ _ _ hw181_0;first | rwa [add_block] at this | exact this) GW182.out))) _).trans (((cell_far (p:=⟨gb182,_,none⟩) (by first | exact nN_ (nL_ (by have:=wL_ _ _ hw181_0;first | rwa [add_block] at this | exact this) GW182.out) | (rw [add_block];exact nN_ (nL_ (by have:=wL_ _ _ hw181_0;first | rwa [add_block] at this | exact this) GW182.out)) | (show (Addr.add _ _).block ≠ _;rw [add_block];exact nN_ (nL_ (by have:=wL_ _ _ hw181_0;first | rwa [add_block] at this | exact this) GW182.out)) | (dsimp only;exact nN_ (nL_ (by have:=wL_ _ _ hw181_0;first | rwa [add_block] at this | exact this) GW182.out))) _).trans (hHeld.2.2.2.2.2.2.2.2.2.2.2.1)))))),((cell_far (p:=⟨gb182,_,none⟩) (by first | exact nN_ (nL_ (by have:=wL_ _ _ hw181_1;first | rwa [add_block] at this | exact this) GW182.out) | (rw [add_block];exact nN_ (nL_ (by have:=wL_ _ _ hw181_1;first | rwa [add_block] at this | exact this) GW182.out)) | (show (Addr.add _ _).block ≠ _;rw [add_block];exact nN_ (nL_ (by have:=wL_ _ _ hw181_1;first | rwa [add_block] at this | exact this) GW182.out)) | (dsimp only;exact nN_ (nL_ (by have:=wL_ _ _ hw181_1;first | rwa [add_block] at this | exact this) GW182.out))) _).trans (((cell_far (p:=⟨gb182,_,none⟩) (by first | exact nN_ (nL_ (by have:=wL_ _ _ hw181_1;first | rwa [add_block] at this | exact this) GW182.out) | (rw [add_block];exact nN_ (nL_ (by have:=wL_ _ _ hw181_1;first | rwa [add_block] at this | exact this) GW182.out)) | (show (Addr.add _ _).block ≠ _;rw [add_block];exact nN_ (nL_ (by have:=wL_ _ _ hw181_1;first | rwa [add_block] at this | exact this) GW182.out)) | (dsimp only;exact nN_ (nL_ (by have:=wL_ _ _ hw181_1;first | rwa [add_block] at this | exact this) GW182.out))) _).trans (((cell_far (p:=⟨gb182,_,none⟩) (by first | exact nN_ (nL_ (by have:=wL_ _ _ hw181_1;first | rwa [add_block] at this | exact this) GW182.out) | (rw [add_block];exact nN_ (nL_ (by have:=wL_ _ _ hw181_1;first | rwa [add_block] at this | exact this) GW182.out)) | (show (Addr.add _ _).block ≠ _;rw [add_block];exact nN_ (nL_ (by have:=wL_ _ _ hw181_1;first | rwa [add_block] at this | exact this) GW182.out)) | (dsimp only;exact nN_ (nL_ (by have:=wL_ _ _ hw181_1;first | rwa [add_block] at this | exact this) GW182.out))) _).trans (hHeld.2.2.2.2.2.2.2.2.2.2.2.2.1)))))),((cell_far (p:=⟨gb182,_,none⟩) (by first | exact nN_ (nL_ (by have:=wL_ _ _ hw181_2;first | rwa [add_block] at this | exact this) GW182.out) | (rw [add_block];exact nN_ (nL_ (by have:=wL_ _ _ hw181_2;first | rwa [add_block] at this | exact this) GW182.out)) | (show (Addr.add _ _).block ≠ _;rw [add_block];exact nN_ (nL_ (by have:=wL_ _ _ hw181_2;first | rwa [add_block] at this | exact this) GW182.out)) | (dsimp only;exact nN_ (nL_ (by have:=wL_ _ _ hw181_2;first | rwa [add_block] at this | exact this) GW182.out))) _).trans (((cell_far (p:=⟨gb182,_,none⟩) (by first | exact nN_ (nL_ (by have:=wL_ _ _ hw181_2;first | rwa [add_block] at this | exact this) GW182.out) | (rw [add_block];exact nN_ (nL_ (by have:=wL_ _ _ hw181_2;first | rwa [add_block] at this | exact this) GW182.out)) | (show (Addr.add _ _).block ≠ _;rw [add_block];exact nN_ (nL_ (by have:=wL_ _ _ hw181_2;first | rwa [add_block] at this | exact this) GW182.out)) | (dsimp only;exact nN_ (nL_ (by have:=wL_ _ _ hw181_2;first | rwa [add_block] at this | exact this) GW182.out))) _).trans (((cell_far (p:=⟨gb182,_,none⟩) (by first | exact nN_ (nL_ (by have:=wL_ _ _ hw181_2;first | rwa [add_block] at this | exact this) GW182.out) | (rw [add_block];exact nN_ (nL_ (by have:=wL_ _ _ hw181_2;first | rwa [add_block] at this | exact this) GW182.out)) | (show (Addr.add _ _).block ≠ _;rw [add_block];exact nN_ (nL_ (by have:=wL_ _ _ hw181_2;first | rwa [add_block] at this | exact this) GW182.out)) | (dsimp only;exact nN_ (nL_ (by have:=wL_ _ _ hw181_2;first | rwa [add_block] at this | exact this) GW182.out))) _).trans (hHeld.2.2.2.2.2.2.2.2.2.2.2.2.2))))))⟩ (fun hHeld=>?_)
              clear hK K
              refine one_ (i:=13) (N:=none) (tb_ 14 0) rfl rfl (one_of HT_.out (by kernel_rfl)) (by decide) (fun K hK=>?_)
              have hs100 : w96.cell? ⟨gb183,0,none⟩ = some (.string (⟨#[]⟩ : ByteArray)):=(kC_ BK183.out 0).trans rfl
              have hfs100:=kF_ BK183.out 0
              have hns100_0:=NB175_183.out
              have hns100_1:=NB176_183.out
              have hns100_2:=NB182_183.out
              have hms100_0:=NB183_175.out
              have hms100_1:=NB183_176.out
              have hms100_2:=NB183_182.out
              have hs101 : w96.cell? ⟨gb183,1,none⟩ = some (.bool false):=(kC_ BK183.out 1).trans rfl
              have hfs101:=kF_ BK183.out 1
              have hns101_0:=NB175_183.out
              have hns101_1:=NB176_183.out
              have hns101_2:=NB182_183.out
              have hms101_0:=NB183_175.out
              have hms101_1:=NB183_176.out
              have hms101_2:=NB183_182.out
              have hs102 : w96.cell? ⟨gb183,2,none⟩ = some (.slice none 0 0):=(kC_ BK183.out 2).trans rfl
              have hfs102:=kF_ BK183.out 2
              have hns102_0:=NB175_183.out
              have hns102_1:=NB176_183.out
              have hns102_2:=NB182_183.out
              have hms102_0:=NB183_175.out
              have hms102_1:=NB183_176.out
              have hms102_2:=NB183_182.out
              refine skip_ (w1:=?_) (by rfl) rfl ?_ ?_
              rotate_left
              ·go_simp
               rfl
              refine hK.out _ _ ⟨((cell_far (p:=⟨gb183,_,none⟩) NB175_183.out _).trans (((cell_far (p:=⟨gb183,_,none⟩) NB175_183.out _).trans (((cell_far (p:=⟨gb183,_,none⟩) NB175_183.out _).trans (hHeld.1)))))),((cell_far (p:=⟨gb183,_,none⟩) NB175_183.out _).trans (((cell_far (p:=⟨gb183,_,none⟩) NB175_183.out _).trans (((cell_far (p:=⟨gb183,_,none⟩) NB175_183.out _).trans (hHeld.2.1)))))),((cell_far (p:=⟨gb183,_,none⟩) NB175_183.out _).trans (((cell_far (p:=⟨gb183,_,none⟩) NB175_183.out _).trans (((cell_far (p:=⟨gb183,_,none⟩) NB175_183.out _).trans (hHeld.2.2.1)))))),((cell_far (p:=⟨gb183,_,none⟩) NB175_183.out _).trans (((cell_far (p:=⟨gb183,_,none⟩) NB175_183.out _).trans (((cell_far (p:=⟨gb183,_,none⟩) NB175_183.out _).trans (hHeld.2.2.2.1)))))),((cell_far (p:=⟨gb183,_,none⟩) NB176_183.out _).trans (((cell_far (p:=⟨gb183,_,none⟩) NB176_183.out _).trans (((cell_far (p:=⟨gb183,_,none⟩) NB176_183.out _).trans (hHeld.2.2.2.2.1)))))),((cell_far (p:=⟨gb183,_,none⟩) NB176_183.out _).trans (((cell_far (p:=⟨gb183,_,none⟩) NB176_183.out _).trans (((cell_far (p:=⟨gb183,_,none⟩) NB176_183.out _).trans (hHeld.2.2.2.2.2.1)))))),((cell_far (p:=⟨gb183,_,none⟩) NB176_183.out _).trans (((cell_far (p:=⟨gb183,_,none⟩) NB176_183.out _).trans (((cell_far (p:=⟨gb183,_,none⟩) NB176_183.out _).trans (hHeld.2.2.2.2.2.2.1)))))),((cell_far (p:=⟨gb183,_,none⟩) NB176_183.out _).trans (((cell_far (p:=⟨gb183,_,none⟩) NB176_183.out _).trans (((cell_far (p:=⟨gb183,_,none⟩) NB176_183.out _).trans (hHeld.2.2.2.2.2.2.2.1)))))),((cell_far (p:=⟨gb183,_,none⟩) (by first | exact nN_ (nL_ (by have:=wL_ _ _ hw180_0;first | rwa [add_block] at this | exact this) GW183.out) | (rw [add_block];exact nN_ (nL_ (by have:=wL_ _ _ hw180_0;first | rwa [add_block] at this | exact this) GW183.out)) | (show (Addr.add _ _).block ≠ _;rw [add_block];exact nN_ (nL_ (by have:=wL_ _ _ hw180_0;first | rwa [add_block] at this | exact this) GW183.out)) | (dsimp only;exact nN_ (nL_ (by have:=wL_ _ _ hw180_0;first | rwa [add_block] at this | exact this) GW183.out))) _).trans (((cell_far (p:=⟨gb183,_,none⟩) (by first | exact nN_ (nL_ (by have:=wL_ _ _ hw180_0;first | rwa [add_block] at this | exact this) GW183.out) | (rw [add_block];exact nN_ (nL_ (by have:=wL_ _ _ hw180_0;first | rwa [add_block] at this | exact this) GW183.out)) | (show (Addr.add _ _).block ≠ _;rw [add_block];exact nN_ (nL_ (by have:=wL_ _ _ hw180_0;first | rwa [add_block] at this | exact this) GW183.out)) | (dsimp only;exact nN_ (nL_ (by have:=wL_ _ _ hw180_0;first | rwa [add_block] at this | exact this) GW183.out))) _).trans (((cell_far (p:=⟨gb183,_,none⟩) (by first | exact nN_ (nL_ (by have:=wL_ _ _ hw180_0;first | rwa [add_block] at this | exact this) GW183.out) | (rw [add_block];exact nN_ (nL_ (by have:=wL_ _ _ hw180_0;first | rwa [add_block] at this | exact this) GW183.out)) | (show (Addr.add _ _).block ≠ _;rw [add_block];exact nN_ (nL_ (by have:=wL_ _ _ hw180_0;first | rwa [add_block] at this | exact this) GW183.out)) | (dsimp only;exact nN_ (nL_ (by have:=wL_ _ _ hw180_0;first | rwa [add_block] at this | exact this) GW183.out))) _).trans (hHeld.2.2.2.2.2.2.2.2.1)))))),((cell_far (p:=⟨gb183,_,none⟩) (by first | exact nN_ (nL_ (by have:=wL_ _ _ hw180_1;first | rwa [add_block] at this | exact this) GW183.out) | (rw [add_block];exact nN_ (nL_ (by have:=wL_ _ _ hw180_1;first | rwa [add_block] at this | exact this) GW183.out)) | (show (Addr.add _ _).block ≠ _;rw [add_block];exact nN_ (nL_ (by have:=wL_ _ _ hw180_1;first | rwa [add_block] at this | exact this) GW183.out)) | (dsimp only;exact nN_ (nL_ (by have:=wL_ _ _ hw180_1;first | rwa [add_block] at this | exact this) GW183.out))) _).trans (((cell_far (p:=⟨gb183,_,none⟩) (by first | exact nN_ (nL_ (by have:=wL_ _ _ hw180_1;first | rwa [add_block] at this | exact this) GW183.out) | (rw [add_block];exact nN_ (nL_ (by have:=wL_ _ _ hw180_1;first | rwa [add_block] at this | exact this) GW183.out)) | (show (Addr.add _ _).block ≠ _;rw [add_block];exact nN_ (nL_ (by have:=wL_ _ _ hw180_1;first | rwa [add_block] at this | exact this) GW183.out)) | (dsimp only;exact nN_ (nL_ (by have:=wL_ _ _ hw180_1;first | rwa [add_block] at this | exact this) GW183.out))) _).trans (((cell_far (p:=⟨gb183,_,none⟩) (by first | exact nN_ (nL_ (by have:=wL_ _ _ hw180_1;first | rwa [add_block] at this | exact this) GW183.out) | (rw [add_block];exact nN_ (nL_ (by have:=wL_ _ _ hw180_1;first | rwa [add_block] at this | exact this) GW183.out)) | (show (Addr.add _ _).block ≠ _;rw [add_block];exact nN_ (nL_ (by have:=wL_ _ _ hw180_1;first | rwa [add_block] at this | exact this) GW183.out)) | (dsimp only;exact nN_ (nL_ (by have:=wL_ _ _ hw180_1;first | rwa [add_block] at this | exact this) GW183.out))) _).trans (hHeld.2.2.2.2.2.2.2.2.2.1)))))),((cell_far (p:=⟨gb183,_,none⟩) (by first | exact nN_ (nL_ (by have:=wL_ _ _ hw180_2;first | rwa [add_block] at this | exact this) GW183.out) | (rw [add_block];exact nN_ (nL_ (by have:=wL_ _ _ hw180_2;first | rwa [add_block] at this | exact this) GW183.out)) | (show (Addr.add _ _).block ≠ _;rw [add_block];exact nN_ (nL_ (by have:=wL_ _ _ hw180_2;first | rwa [add_block] at this | exact this) GW183.out)) | (dsimp only;exact nN_ (nL_ (by have:=wL_ _ _ hw180_2;first | rwa [add_block] at this | exact this) GW183.out))) _).trans (((cell_far (p:=⟨gb183,_,none⟩) (by first | exact nN_ (nL_ (by have:=wL_ _ _ hw180_2;first | rwa [add_block] at this | exact this) GW183.out) | (rw [add_block];exact nN_ (nL_ (by have:=wL_ _ _ hw180_2;first | rwa [add_block] at this | exact this) GW183.out)) | (show (Addr.add _ _).block ≠ _;rw [add_block];exact nN_ (nL_ (by have:=wL_ _ _ hw180_2;first | rwa [add_block] at this | exact this) GW183.out)) | (dsimp only;exact nN_ (nL_ (by have:=wL_ _ _ hw180_2;first | rwa [add_block] at this | exact this) GW183.out))) _).trans (((cell_far (p:=⟨gb183,_,none⟩) (by first | exact nN_ (nL_ (by have:=wL_ _ _ hw180_2;first | rwa [add_block] at this | exact this) GW183.out) | (rw [add_block];exact nN_ (nL_ (by have:=wL_ _ _ hw180_2;first | rwa [add_block] at this | exact this) GW183.out)) | (show (Addr.add _ _).block ≠ _;rw [add_block];exact nN_ (nL_ (by have:=wL_ _ _ hw180_2;first | rwa [add_block] at this | exact this) GW183.out)) | (dsimp only;exact nN_ (nL_ (by have:=wL_ _ _ hw180_2;first | rwa [add_block] at this | exact this) GW183.out))) _).trans (hHeld.2.2.2.2.2.2.2.2.2.2.1)))))),((cell_far (p:=⟨gb183,_,none⟩) (by first | exact nN_ (nL_ (by have:=wL_ _ _ hw181_0;first | rwa [add_block] at this | exact this) GW183.out) | (rw [add_block];exact nN_ (nL_ (by have:=wL_ _ _ hw181_0;first | rwa [add_block] at this | exact this) GW183.out)) | (show (Addr.add _ _).block ≠ _;rw [add_block];exact nN_ (nL_ (by have:=wL_ _ _ hw181_0;first | rwa [add_block] at this | exact this) GW183.out)) | (dsimp only;exact nN_ (nL_ (by have:=wL_ _ _ hw181_0;first | rwa [add_block] at this | exact this) GW183.out))) _).trans (((cell_far (p:=⟨gb183,_,none⟩) (by first | exact nN_ (nL_ (by have:=wL_ _ _ hw181_0;first | rwa [add_block] at this | exact this) GW183.out) | (rw [add_block];exact nN_ (nL_ (by have:=wL_ _ _ hw181_0;first | rwa [add_block] at this | exact this) GW183.out)) | (show (Addr.add _ _).block ≠ _;rw [add_block];exact nN_ (nL_ (by have:=wL_ _ _ hw181_0;first | rwa [add_block] at this | exact this) GW183.out)) | (dsimp only;exact nN_ (nL_ (by have:=wL_ _ _ hw181_0;first | rwa [add_block] at this | exact this) GW183.out))) _).trans (((cell_far (p:=⟨gb183,_,none⟩) (by first | exact nN_ (nL_ (by have:=wL_ _ _ hw181_0;first | rwa [add_block] at this | exact this) GW183.out) | (rw [add_block];exact nN_ (nL_ (by have:=wL_ _ _ hw181_0;first | rwa [add_block] at this | exact this) GW183.out)) | (show (Addr.add _ _).block ≠ _;rw [add_block];exact nN_ (nL_ (by have:=wL_ _ _ hw181_0;first | rwa [add_block] at this | exact this) GW183.out)) | (dsimp only;exact nN_ (nL_ (by have:=wL_ _ _ hw181_0;first | rwa [add_block] at this | exact this) GW183.out))) _).trans (hHeld.2.2.2.2.2.2.2.2.2.2.2.1)))))),((cell_far (p:=⟨gb183,_,none⟩) (by first | exact nN_ (nL_ (by have:=wL_ _ _ hw181_1;first | rwa [add_block] at this | exact this) GW183.out) | (rw [add_block];exact nN_ (nL_ (by have:=wL_ _ _ hw181_1;first | rwa [add_block] at this | exact this) GW183.out)) | (show (Addr.add _ _).block ≠ _;rw [add_block];exact nN_ (nL_ (by have:=wL_ _ _ hw181_1;first | rwa [add_block] at this | exact this) GW183.out)) | (dsimp only;exact nN_ (nL_ (by have:=wL_ _ _ hw181_1;first | rwa [add_block] at this | exact this) GW183.out))) _).trans (((cell_far (p:=⟨gb183,_,none⟩) (by first | exact nN_ (nL_ (by have:=wL_ _ _ hw181_1;first | rwa [add_block] at this | exact this) GW183.out) | (rw [add_block];exact nN_ (nL_ (by have:=wL_ _ _ hw181_1;first | rwa [add_block] at this | exact this) GW183.out)) | (show (Addr.add _ _).block ≠ _;rw [add_block];exact nN_ (nL_ (by have:=wL_ _ _ hw181_1;first | rwa [add_block] at this | exact this) GW183.out)) | (dsimp only;exact nN_ (nL_ (by have:=wL_ _ _ hw181_1;first | rwa [add_block] at this | exact this) GW183.out))) _).trans (((cell_far (p:=⟨gb183,_,none⟩) (by first | exact nN_ (nL_ (by have:=wL_ _ _ hw181_1;first | rwa [add_block] at this | exact this) GW183.out) | (rw [add_block];exact nN_ (nL_ (by have:=wL_ _ _ hw181_1;first | rwa [add_block] at this | exact this) GW183.out)) | (show (Addr.add _ _).block ≠ _;rw [add_block];exact nN_ (nL_ (by have:=wL_ _ _ hw181_1;first | rwa [add_block] at this | exact this) GW183.out)) | (dsimp only;exact nN_ (nL_ (by have:=wL_ _ _ hw181_1;first | rwa [add_block] at this | exact this) GW183.out))) _).trans (hHeld.2.2.2.2.2.2.2.2.2.2.2.2.1)))))),((cell_far (p:=⟨gb183,_,none⟩) (by first | exact nN_ (nL_ (by have:=wL_ _ _ hw181_2;first | rwa [add_block] at this | exact this) GW183.out) | (rw [add_block];exact nN_ (nL_ (by have:=wL_ _ _ hw181_2;first | rwa [add_block] at this | exact this) GW183.out)) | (show (Addr.add _ _).block ≠ _;rw [add_block];exact nN_ (nL_ (by have:=wL_ _ _ hw181_2;first | rwa [add_block] at this | exact this) GW183.out)) | (dsimp only;exact nN_ (nL_ (by have:=wL_ _ _ hw181_2;first | rwa [add_block] at this | exact this) GW183.out))) _).trans (((cell_far (p:=⟨gb183,_,none⟩) (by first | exact nN_ (nL_ (by have:=wL_ _ _ hw181_2;first | rwa [add_block] at this | exact this) GW183.out) | (rw [add_block];exact nN_ (nL_ (by have:=wL_ _ _ hw181_2;first | rwa [add_block] at this | exact this) GW183.out)) | (show (Addr.add _ _).block ≠ _;rw [add_block];exact nN_ (nL_ (by have:=wL_ _ _ hw181_2;first | rwa [add_block] at this | exact this) GW183.out)) | (dsimp only;exact nN_ (nL_ (by have:=wL_ _ _ hw181_2;first | rwa [add_block] at this | exact this) GW183.out))) _).trans (((cell_far (p:=⟨gb183,_,none⟩) (by first | exact nN_ (nL_ (by have:=wL_ _ _ hw181_2;first | rwa [add_block] at this | exact this) GW183.out) | (rw [add_block];exact nN_ (nL_ (by have:=wL_ _ _ hw181_2;first | rwa [add_block] at this | exact this) GW183.out)) | (show (Addr.add _ _).block ≠ _;rw [add_block];exact nN_ (nL_ (by have:=wL_ _ _ hw181_2;first | rwa [add_block] at this | exact this) GW183.out)) | (dsimp only;exact nN_ (nL_ (by have:=wL_ _ _ hw181_2;first | rwa [add_block] at this | exact this) GW183.out))) _).trans (hHeld.2.2.2.2.2.2.2.2.2.2.2.2.2))))))⟩ (fun hHeld=>?_)
              clear hK K
              refine done_ (done_of HT_.out (by kernel_rfl)) ?_
              have hnb103:=NB182_175.out
              have hnc103:=NB175_182.out
              have hnb104:=NB182_176.out
              have hnc104:=NB176_182.out
              have hnb105:=NB182_183.out
              have hnc105:=NB183_182.out
              have hcz106_0 : w96.cell? ⟨gb182,0,none⟩ = some (.string (⟨#[]⟩ : ByteArray)):=(kC_ BK182.out 0).trans rfl
              have hcz106_1 : w96.cell? ⟨gb182,1,none⟩ = some (.bool false):=(kC_ BK182.out 1).trans rfl
              have hcz106_2 : w96.cell? ⟨gb182,2,none⟩ = some (.slice none 0 0):=(kC_ BK182.out 2).trans rfl
              have hfz106_0:=kF_ BK182.out 0
              have hfz106_1:=kF_ BK182.out 1
              have hfz106_2:=kF_ BK182.out 2
              have hnb107:=NB183_175.out
              have hnc107:=NB175_183.out
              have hnb108:=NB183_176.out
              have hnc108:=NB176_183.out
              have hcz109_0 : w96.cell? ⟨gb183,0,none⟩ = some (.string (⟨#[]⟩ : ByteArray)):=(kC_ BK183.out 0).trans rfl
              have hcz109_1 : w96.cell? ⟨gb183,1,none⟩ = some (.bool false):=(kC_ BK183.out 1).trans rfl
              have hcz109_2 : w96.cell? ⟨gb183,2,none⟩ = some (.slice none 0 0):=(kC_ BK183.out 2).trans rfl
              have hfz109_0:=kF_ BK183.out 0
              have hfz109_1:=kF_ BK183.out 1
              have hfz109_2:=kF_ BK183.out 2
              try go_wp2
              go_ret
              exact ⟨by first | rfl | (simp [errW_none,errW_some] <;> rfl) | (simp [*, errW_none,errW_some] <;> rfl),by exact bZ_ HB⟩
            ·rw [if_neg c37] at H
             exact absurd H (by simp)
           ·rw [if_neg c36] at H
            exact absurd H (by simp)
          ·rw [if_neg c35] at H
           exact absurd H (by simp)
         ·rw [if_neg c34] at H
          have c34b0 : decide (x61_3 < (l0_3.length : Int)) = false:=decide_eq_false c34
          clear c34
          obtain rfl:=Option.some.inj H
          go_wp2
          go_ret
          exact ⟨by first | rfl | (simp [errW_none,errW_some] <;> rfl) | (simp [*, errW_none,errW_some] <;> rfl),by exact bZ_ HB⟩
end Go.Proofs.Ytllgmgpfdnofmaa.PFnExactSameDef
