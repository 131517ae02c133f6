import Derived.Test.YtllgmgpfdnofmaaZNDPFnNodesx0
import Derived.Test.YtllgmgpfdnofmaaZNDPFnNodesx5
namespace Go.Proofs.Ytllgmgpfdnofmaa.PFnNodes
open Go.RowKit Go.Proofs.YtllgmgpfdnofmaaW.PrintWords Go.Proofs.YtllgmgpfdnofmaaW.PrintLast Go.Proofs.YtllgmgpfdnofmaaW.PrintMore Go.Proofs.Ytllgmgpfdnofmaa.Xtra
attribute [local go_sem] max2_int min2_int max_two min_two max_three min_three max_four min_four str_leq str_gtr str_geq setCell_drewN cell_set2 cell_set3   -- for this text's walks alone
set_option linter.unusedVariables false
set_option linter.unusedSimpArgs false
mutual
def spec_NodeOk.j0 : Nat → Bool → Bool → List ByteArray → List ByteArray → List Int → Option (Bool)
 | 0,_,_,_,_,_=>none
 | k + 1,x13,x202000,x202001,x202002,x202003=>if x13 = true then (some false) else (if x202000 = true then (spec_NodeOk.l0 k 0 x202000 x202001 x202002 x202003) else (spec_NodeOk.l1 k 0 x202000 x202001 x202002 x202003))
def spec_NodeOk.l0 : Nat → Int → Bool → List ByteArray → List ByteArray → List Int → Option (Bool)
 | 0,_,_,_,_,_=>none
 | k + 1,x3,x202000,x202001,x202002,x202003=>if x3 < (x202002.length : Int) then (if 0 ≤ x3 then (if ((rdOf ByteArray.empty x202002 x3).size : Int) > 60 then (some false) else (spec_NodeOk.l0 k (wrap64 (x3 + 1)) x202000 x202001 x202002 x202003)) else (none)) else (if (x202001.length : Int) ≥ 1 then (if (x202002.length : Int) = (x202001.length : Int) then (some ((x202003.length : Int) == 0)) else (some false)) else (some false))
def spec_NodeOk.l1 : Nat → Int → Bool → List ByteArray → List ByteArray → List Int → Option (Bool)
 | 0,_,_,_,_,_=>none
 | k + 1,x4,x202000,x202001,x202002,x202003=>if x4 < (x202003.length : Int) then (if 0 ≤ x4 then ((spec_l1In.f (rd x202003 x4) 2 47).bind fun t206=>(if t206 = true then (spec_NodeOk.l1 k (wrap64 (x4 + 1)) x202000 x202001 x202002 x202003) else (some false))) else (none)) else (if (x202003.length : Int) ≥ 1 then (if (x202001.length : Int) = (wrap64 ((x202003.length : Int) - 1)) then (some ((x202002.length : Int) == 0)) else (some false)) else (some false))
end
def spec_NodeOk.f (k : Nat) (a0_0 : Bool) (l0_1 : List ByteArray) (l0_2 : List ByteArray) (l0_3 : List Int) : Option (Bool):=(spec_l14Rising.f k l0_1).bind fun t202=>(if t202 = true then ((spec_SizeOf.f k a0_0 l0_1 l0_2 l0_3).bind fun t203=>(spec_NodeOk.j0 k (decide (t203 > 240)) a0_0 l0_1 l0_2 l0_3)) else (spec_NodeOk.j0 k true a0_0 l0_1 l0_2 l0_3))
theorem spec_NodeOk.mono_l : ∀ k,(∀ y0 y1 y2 y3 y4,LeO (spec_NodeOk.j0 k y0 y1 y2 y3 y4) (spec_NodeOk.j0 (k + 1) y0 y1 y2 y3 y4)) ∧ (∀ y0 y1 y2 y3 y4,LeO (spec_NodeOk.l0 k y0 y1 y2 y3 y4) (spec_NodeOk.l0 (k + 1) y0 y1 y2 y3 y4)) ∧ (∀ y0 y1 y2 y3 y4,LeO (spec_NodeOk.l1 k y0 y1 y2 y3 y4) (spec_NodeOk.l1 (k + 1) y0 y1 y2 y3 y4))
 | 0=>⟨fun _ _ _ _ _ r h=>by simp [spec_NodeOk.j0] at h,fun _ _ _ _ _ r h=>by simp [spec_NodeOk.l0] at h,fun _ _ _ _ _ r h=>by simp [spec_NodeOk.l1] at h⟩
 | k + 1=>by
  obtain ⟨ih0,ih1,ih2⟩:=spec_NodeOk.mono_l k
  refine ⟨?_,?_,?_⟩
  ·intro y0 y1 y2 y3 y4
   unfold spec_NodeOk.j0
   repeat' first
   | (with_reducible exact ih0 _ _ _ _ _)
   | (with_reducible exact ih1 _ _ _ _ _)
   | (with_reducible exact ih2 _ _ _ _ _)
   | (with_reducible exact spec_SizeOf.mono _ _ _ _ _)
   | (with_reducible exact spec_l14Rising.mono _ _)
   | (with_reducible exact LeO.refl _)
   | (with_reducible exact LeO.none _)
   | (with_reducible refine LeO.ite ?_ ?_)
   | (with_reducible refine LeO.bind ?_ (fun _=>?_))
   | exact ih0 _ _ _ _ _
   | exact ih1 _ _ _ _ _
   | exact ih2 _ _ _ _ _
   | exact spec_SizeOf.mono _ _ _ _ _
   | exact spec_l14Rising.mono _ _
   | exact LeO.none _
   | refine LeO.ite ?_ ?_
   | refine LeO.bind ?_ (fun _=>?_)
  ·intro y0 y1 y2 y3 y4
   unfold spec_NodeOk.l0
   repeat' first
   | (with_reducible exact ih0 _ _ _ _ _)
   | (with_reducible exact ih1 _ _ _ _ _)
   | (with_reducible exact ih2 _ _ _ _ _)
   | (with_reducible exact spec_SizeOf.mono _ _ _ _ _)
   | (with_reducible exact spec_l14Rising.mono _ _)
   | (with_reducible exact LeO.refl _)
   | (with_reducible exact LeO.none _)
   | (with_reducible refine LeO.ite ?_ ?_)
   | (with_reducible refine LeO.bind ?_ (fun _=>?_))
   | exact ih0 _ _ _ _ _
   | exact ih1 _ _ _ _ _
   | exact ih2 _ _ _ _ _
   | exact spec_SizeOf.mono _ _ _ _ _
   | exact spec_l14Rising.mono _ _
   | exact LeO.none _
   | refine LeO.ite ?_ ?_
   | refine LeO.bind ?_ (fun _=>?_)
  ·intro y0 y1 y2 y3 y4
   unfold spec_NodeOk.l1
   repeat' first
   | (with_reducible exact ih0 _ _ _ _ _)
   | (with_reducible exact ih1 _ _ _ _ _)
   | (with_reducible exact ih2 _ _ _ _ _)
   | (with_reducible exact spec_SizeOf.mono _ _ _ _ _)
   | (with_reducible exact spec_l14Rising.mono _ _)
   | (with_reducible exact LeO.refl _)
   | (with_reducible exact LeO.none _)
   | (with_reducible refine LeO.ite ?_ ?_)
   | (with_reducible refine LeO.bind ?_ (fun _=>?_))
   | exact ih0 _ _ _ _ _
   | exact ih1 _ _ _ _ _
   | exact ih2 _ _ _ _ _
   | exact spec_SizeOf.mono _ _ _ _ _
   | exact spec_l14Rising.mono _ _
   | exact LeO.none _
   | refine LeO.ite ?_ ?_
   | refine LeO.bind ?_ (fun _=>?_)
theorem spec_NodeOk.mono : ∀ a0 a1 a2 a3 k,LeO (spec_NodeOk.f k a0 a1 a2 a3) (spec_NodeOk.f (k + 1) a0 a1 a2 a3):=by
 intro a0 a1 a2 a3 k
 obtain ⟨ih0,ih1,ih2⟩:=spec_NodeOk.mono_l k
 unfold spec_NodeOk.f
 repeat' first
   | (with_reducible exact ih0 _ _ _ _ _)
   | (with_reducible exact ih1 _ _ _ _ _)
   | (with_reducible exact ih2 _ _ _ _ _)
   | (with_reducible exact spec_SizeOf.mono _ _ _ _ _)
   | (with_reducible exact spec_l14Rising.mono _ _)
   | (with_reducible exact LeO.refl _)
   | (with_reducible exact LeO.none _)
   | (with_reducible refine LeO.ite ?_ ?_)
   | (with_reducible refine LeO.bind ?_ (fun _=>?_))
   | exact ih0 _ _ _ _ _
   | exact ih1 _ _ _ _ _
   | exact ih2 _ _ _ _ _
   | exact spec_SizeOf.mono _ _ _ _ _
   | exact spec_l14Rising.mono _ _
   | exact LeO.none _
   | refine LeO.ite ?_ ?_
   | refine LeO.bind ?_ (fun _=>?_)
set_option maxHeartbeats 8000000 in
set_option maxRecDepth 100000 in
theorem spec_NodeOk.calls (k : Nat) (a0_0 : Bool) (A0_1 : Option Addr) (c0_1 : Nat) (l0_1 : List ByteArray) (A0_2 : Option Addr) (c0_2 : Nat) (l0_2 : List ByteArray) (A0_3 : Option Addr) (c0_3 : Nat) (l0_3 : List Int) (r : Bool) (w : World) (hr0_1 : Kd.C Kd.string w A0_1 l0_1.length l0_1) (hc0_1 : l0_1.length ≤ c0_1) (hr0_2 : Kd.C Kd.string w A0_2 l0_2.length l0_2) (hc0_2 : l0_2.length ≤ c0_2) (hr0_3 : Kd.C (Kd.int .i64) w A0_3 l0_3.length l0_3) (hc0_3 : l0_3.length ≤ c0_3) (h : spec_NodeOk.f k a0_0 l0_1 l0_2 l0_3 = some r) :
  Calls Try.prog 32 #[.agg #[.bool a0_0,.slice A0_1 l0_1.length c0_1,.slice A0_2 l0_2.length c0_2,.slice A0_3 l0_3.length c0_3]] w fun e w'=>e = .returned (.bool r) ∧ Below w.heap.size w w':=by
 have hu29:=Try.underlying29
 have HR0_1:=aM_ hr0_1
 have HC0_1:=aM_ hc0_1
 clear hr0_1 hc0_1
 have HR0_2:=aM_ hr0_2
 have HC0_2:=aM_ hc0_2
 clear hr0_2 hc0_2
 have HR0_3:=aM_ hr0_3
 have HC0_3:=aM_ hc0_3
 clear hr0_3 hc0_3
 have HB:=aM_ (Below.refl w.heap.size w)
 have H : ((spec_l14Rising.f k l0_1).bind fun t202=>(if t202 = true then ((spec_SizeOf.f k a0_0 l0_1 l0_2 l0_3).bind fun t203=>(spec_NodeOk.j0 k (decide (t203 > 240)) a0_0 l0_1 l0_2 l0_3)) else (spec_NodeOk.j0 k true a0_0 l0_1 l0_2 l0_3))) = some r:=h
 clear h
 have HC2:=aM_ H
 clear H
 go_enter Try.func32,Try.ntmps32
 go_upto_region 1 with (first | ((with_reducible refine gate_dst (N:=1) rfl ?_);(try (refine gate_guard (by rfl) ?_;dsimp only));refine box_event ?hg (N:=1) ?hd (cs:=#[.bool a0_0,.slice A0_1 l0_1.length c0_1,.slice A0_2 l0_2.length c0_2,.slice A0_3 l0_3.length c0_3]) (t:=29) ?hr ?_;(case hd=>rfl);(case hg=>rfl);(case hr=>first | (go_simp;done) | (go_simp;rfl));intro gb201 hg w3 hbox hb;have n0_:=aM_ (bT_ (by exact bZ_ HB) hb);have n1_:=aM_ (hbox);have n2_:=aM_ ((by rw [hg];exact (bS_ (by exact bZ_ HB)) : w.heap.size ≤ gb201));have n3_:=aM_ ((by rw [hg];exact (bS_ (by exact bZ_ HB)) : w.heap.size ≤ gb201));clear HB;have HB:=n0_;have BK201:=n1_;have GW201:=n2_;have GE201:=n3_;clear n0_ n1_ n2_ n3_ hb hbox hg))
 (try simp only [Act.put,sI_,sZ_,sS_])
 go_cut [13] (fun v13 wc=>∃ (kq : Nat) (x13_1 : Bool),v13 = .bool x13_1 ∧ Aside0 (spec_NodeOk.j0 kq x13_1 a0_0 l0_1 l0_2 l0_3 = some r) ∧ Aside0 (kq ≤ k) ∧ Aside0 (wc.heap[gb201]? = some (.cells #[.bool a0_0,(.slice A0_1 l0_1.length c0_1),(.slice A0_2 l0_2.length c0_2),(.slice A0_3 l0_3.length c0_3)] 29 (0,0))) ∧ Aside0 (Below w.heap.size w wc))
 case first =>
  have H:=HC2.out
  clear HC2
  replace H:=oB_ H
  obtain ⟨t202,A40,H⟩:=H
  replace H : (if t202 = true then ((spec_SizeOf.f k a0_0 l0_1 l0_2 l0_3).bind fun t203=>(spec_NodeOk.j0 k (decide (t203 > 240)) a0_0 l0_1 l0_2 l0_3)) else (spec_NodeOk.j0 k true a0_0 l0_1 l0_2 l0_3)) = some r:=H
  have A4:=aM_ A40
  clear A40
  by_cases c5 : t202 = true
  ·subst c5
   have H1 : ((spec_SizeOf.f k a0_0 l0_1 l0_2 l0_3).bind fun t203=>(spec_NodeOk.j0 k (decide (t203 > 240)) a0_0 l0_1 l0_2 l0_3)) = some r:=by rw [if_pos rfl] at H;exact H
   clear H
   have H:=H1
   clear H1
   replace H:=oB_ H
   obtain ⟨t203,A60,H⟩:=H
   replace H : (spec_NodeOk.j0 k (decide (t203 > 240)) a0_0 l0_1 l0_2 l0_3) = some r:=H
   have A6:=aM_ A60
   clear A60
   have H':=aM_ H
   clear H
   have hcz7_0 : w3.cell? ⟨gb201,0,none⟩ = some (.bool a0_0):=(kC_ BK201.out 0).trans rfl
   have hcz7_1 : w3.cell? ⟨gb201,1,none⟩ = some (.slice A0_1 l0_1.length c0_1):=(kC_ BK201.out 1).trans rfl
   have hcz7_2 : w3.cell? ⟨gb201,2,none⟩ = some (.slice A0_2 l0_2.length c0_2):=(kC_ BK201.out 2).trans rfl
   have hcz7_3 : w3.cell? ⟨gb201,3,none⟩ = some (.slice A0_3 l0_3.length c0_3):=(kC_ BK201.out 3).trans rfl
   have hfz7_0:=kF_ BK201.out 0
   have hfz7_1:=kF_ BK201.out 1
   have hfz7_2:=kF_ BK201.out 2
   have hfz7_3:=kF_ BK201.out 3
   go_wp2_with (first | ((with_reducible refine gate_callee (f:=88) rfl ?_);refine goesL_ (some 7) rfl rfl Try.func88 (by kernel_rfl) rfl #[.slice A0_1 l0_1.length c0_1] rfl (by (try simp only [mA_,mC_,mN_]);first | done | rfl | (simp only [lD_,lT_];rfl)) ?_;(with_reducible refine (spec_l14Rising.calls k _ _ l0_1 true _ ?side1 ?side2 A4.out).mono ?_);(case side1=>repeat (first | exact (Kd.C_below HR0_1.out HB.out) | (with_reducible refine cA_ ?_ _) | (with_reducible refine cN_ ?_ _) | (with_reducible refine cD_ ?_)));(case side2=>exact HC0_1.out);rintro e w' ⟨rfl,⟨nd,rfl⟩⟩;refine ⟨_,rfl,?_⟩) | (go_at_call 31;(with_reducible refine (spec_SizeOf.calls k a0_0 _ _ l0_1 _ _ l0_2 _ _ l0_3 t203 _ ?side1 ?side2 ?side3 ?side4 ?side5 ?side6 A6.out).mono ?_);(case side1=>repeat (first | exact (Kd.C_below HR0_1.out (by exact bZ_ HB)) | (with_reducible refine cA_ ?_ _) | (with_reducible refine cN_ ?_ _) | (with_reducible refine cD_ ?_)));(case side2=>exact HC0_1.out);(case side3=>repeat (first | exact (Kd.C_below HR0_2.out (by exact bZ_ HB)) | (with_reducible refine cA_ ?_ _) | (with_reducible refine cN_ ?_ _) | (with_reducible refine cD_ ?_)));(case side4=>exact HC0_2.out);(case side5=>repeat (first | exact (Kd.C_below HR0_3.out (by exact bZ_ HB)) | (with_reducible refine cA_ ?_ _) | (with_reducible refine cN_ ?_ _) | (with_reducible refine cD_ ?_)));(case side6=>exact HC0_3.out);rintro e w8 ⟨rfl,hb⟩;have n0_:=aM_ (blk_below (g:=gb201) (o:=.cells #[.bool a0_0,.slice A0_1 l0_1.length c0_1,.slice A0_2 l0_2.length c0_2,.slice A0_3 l0_3.length c0_3] 29 (0,0)) (by exact kZ_ BK201) hb);have n1_:=aM_ (bT_ (by exact bZ_ HB) hb);clear BK201 HB;have BK201:=n0_;have HB:=n1_;clear n0_ n1_ hb))
   (first | go_meet | (refine Met.intro ?_;go_step;(repeat apply Exists.intro);refine ⟨?rel,?eq⟩;(case eq=>(try simp only [c10b0]);(try simp only [c23b0]);(try simp only [c23b0]);rfl)))
   case rel=>exact ⟨_,(decide (t203 > 240)),(by first | rfl | (simp;done) | (simp [*];done)),H', ⟨by first | omega | exact Nat.le_refl _⟩,⟨by exact kZ_ BK201⟩,⟨by exact bZ_ HB⟩⟩
  ·replace c5:=Bool.eq_false_iff.mpr c5
   subst c5
   have H1 : (spec_NodeOk.j0 k true a0_0 l0_1 l0_2 l0_3) = some r:=by rw [if_neg (show ¬ (false = true) by decide)] at H;exact H
   clear H
   have H:=H1
   clear H1
   have H':=aM_ H
   clear H
   have hcz9_0 : w3.cell? ⟨gb201,0,none⟩ = some (.bool a0_0):=(kC_ BK201.out 0).trans rfl
   have hcz9_1 : w3.cell? ⟨gb201,1,none⟩ = some (.slice A0_1 l0_1.length c0_1):=(kC_ BK201.out 1).trans rfl
   have hcz9_2 : w3.cell? ⟨gb201,2,none⟩ = some (.slice A0_2 l0_2.length c0_2):=(kC_ BK201.out 2).trans rfl
   have hcz9_3 : w3.cell? ⟨gb201,3,none⟩ = some (.slice A0_3 l0_3.length c0_3):=(kC_ BK201.out 3).trans rfl
   have hfz9_0:=kF_ BK201.out 0
   have hfz9_1:=kF_ BK201.out 1
   have hfz9_2:=kF_ BK201.out 2
   have hfz9_3:=kF_ BK201.out 3
   go_wp2_with (first | ((with_reducible refine gate_callee (f:=88) rfl ?_);refine goesL_ (some 7) rfl rfl Try.func88 (by kernel_rfl) rfl #[.slice A0_1 l0_1.length c0_1] rfl (by (try simp only [mA_,mC_,mN_]);first | done | rfl | (simp only [lD_,lT_];rfl)) ?_;(with_reducible refine (spec_l14Rising.calls k _ _ l0_1 false _ ?side1 ?side2 A4.out).mono ?_);(case side1=>repeat (first | exact (Kd.C_below HR0_1.out HB.out) | (with_reducible refine cA_ ?_ _) | (with_reducible refine cN_ ?_ _) | (with_reducible refine cD_ ?_)));(case side2=>exact HC0_1.out);rintro e w' ⟨rfl,⟨nd,rfl⟩⟩;refine ⟨_,rfl,?_⟩))
   (first | go_meet | (refine Met.intro ?_;go_step;(repeat apply Exists.intro);refine ⟨?rel,?eq⟩;(case eq=>(try simp only [c10b0]);(try simp only [c23b0]);(try simp only [c23b0]);rfl)))
   case rel=>exact ⟨_,(true),(by first | rfl | (simp;done) | (simp [*];done)),H', ⟨by first | omega | exact Nat.le_refl _⟩,⟨by exact kZ_ BK201⟩,⟨by exact bZ_ HB⟩⟩
 case rest =>
  clear HC2
  obtain ⟨kq,x13_1,rfl,HA,HJ1,BK201,HB⟩:=hcut
  cases kq with
  | zero=>exact absurd HA.out (by simp [spec_NodeOk.j0])
  | succ kj1 =>
   have H:=HA.out
   clear HA
   simp only [spec_NodeOk.j0] at H
   by_cases c10 : x13_1 = true
   ·subst c10
    have H1 : (some false) = some r:=by rw [if_pos rfl] at H;exact H
    clear H
    have H:=H1
    clear H1
    obtain rfl:=Option.some.inj H
    go_wp2
    go_ret
    exact ⟨by first | rfl | (simp [errW_none,errW_some] <;> rfl) | (simp [*, errW_none,errW_some] <;> rfl),by exact bZ_ HB⟩
   ·replace c10:=Bool.eq_false_iff.mpr c10
    subst c10
    have H1 : (if a0_0 = true then (spec_NodeOk.l0 kj1 0 a0_0 l0_1 l0_2 l0_3) else (spec_NodeOk.l1 kj1 0 a0_0 l0_1 l0_2 l0_3)) = some r:=by rw [if_neg (show ¬ (false = true) by decide)] at H;exact H
    clear H
    have H:=H1
    clear H1
    by_cases c11 : a0_0 = true
    ·subst c11
     have H1 : (spec_NodeOk.l0 kj1 0 true l0_1 l0_2 l0_3) = some r:=by rw [if_pos rfl] at H;exact H
     clear H
     have H:=H1
     clear H1
     have H':=aM_ H
     clear H
     have hcz12_0 : wc.cell? ⟨gb201,0,none⟩ = some (.bool true):=(kC_ BK201.out 0).trans rfl
     have hcz12_1 : wc.cell? ⟨gb201,1,none⟩ = some (.slice A0_1 l0_1.length c0_1):=(kC_ BK201.out 1).trans rfl
     have hcz12_2 : wc.cell? ⟨gb201,2,none⟩ = some (.slice A0_2 l0_2.length c0_2):=(kC_ BK201.out 2).trans rfl
     have hcz12_3 : wc.cell? ⟨gb201,3,none⟩ = some (.slice A0_3 l0_3.length c0_3):=(kC_ BK201.out 3).trans rfl
     have hfz12_0:=kF_ BK201.out 0
     have hfz12_1:=kF_ BK201.out 1
     have hfz12_2:=kF_ BK201.out 2
     have hfz12_3:=kF_ BK201.out 3
     go_wp2
     (try simp only [Act.put,sI_,sS_,sZ_])
     go_loopg [3] kj1 (fun kq v3 w'=>∃ (x3_2 : Int),v3 = .int .i64 x3_2 ∧ Aside0 (spec_NodeOk.l0 kq x3_2 true l0_1 l0_2 l0_3 = some r) ∧ Aside0 (kq ≤ kj1) ∧ Aside0 (w'.heap[gb201]? = some (.cells #[.bool true,(.slice A0_1 l0_1.length c0_1),(.slice A0_2 l0_2.length c0_2),(.slice A0_3 l0_3.length c0_3)] 29 (0,0))) ∧ Aside0 (Below w.heap.size w w'))
     case atStart=>exact ⟨(0),(by first | rfl | (simp;done) | (simp [*];done)),H', ⟨Nat.le_refl _⟩,⟨by exact kZ_ BK201⟩,⟨by exact bZ_ HB⟩⟩
     case round =>
      clear H'
      clear hcz12_0 hcz12_1 hcz12_2 hcz12_3 hfz12_0 hfz12_1 hfz12_2 hfz12_3
      obtain ⟨x3_2,rfl,HA,HK2,BK201,HB⟩:=hrel
      cases gk with
      | zero=>exact absurd HA.out (by simp [spec_NodeOk.l0])
      | succ k2 =>
       have H:=HA.out
       clear HA
       simp only [spec_NodeOk.l0] at H
       by_cases c13 : x3_2 < (l0_2.length : Int)
       ·rw [if_pos c13] at H
        have c13b0 : decide (x3_2 < (l0_2.length : Int)) = true:=decide_eq_true c13
        clear c13
        by_cases c14 : 0 ≤ x3_2
        ·rw [if_pos c14] at H
         have c14b0 : decide (0 ≤ x3_2) = true:=decide_eq_true c14
         clear c14
         by_cases c15 : ((rdOf ByteArray.empty l0_2 x3_2).size : Int) > 60
         ·rw [if_pos c15] at H
          have c15b0 : decide (60 < ((rdOf ByteArray.empty l0_2 x3_2).size : Int)) = true:=decide_eq_true c15
          have c15b1 : decide (60 < (rdOf ByteArray.empty l0_2 x3_2).size) = true:=decide_eq_true (by omega)
          clear c15
          obtain rfl:=Option.some.inj H
          have hcz16_0 : wr.cell? ⟨gb201,0,none⟩ = some (.bool true):=(kC_ BK201.out 0).trans rfl
          have hcz16_1 : wr.cell? ⟨gb201,1,none⟩ = some (.slice A0_1 l0_1.length c0_1):=(kC_ BK201.out 1).trans rfl
          have hcz16_2 : wr.cell? ⟨gb201,2,none⟩ = some (.slice A0_2 l0_2.length c0_2):=(kC_ BK201.out 2).trans rfl
          have hcz16_3 : wr.cell? ⟨gb201,3,none⟩ = some (.slice A0_3 l0_3.length c0_3):=(kC_ BK201.out 3).trans rfl
          have hfz16_0:=kF_ BK201.out 0
          have hfz16_1:=kF_ BK201.out 1
          have hfz16_2:=kF_ BK201.out 2
          have hfz16_3:=kF_ BK201.out 3
          have p204 : 0 ≤ (x3_2 : Int):=oT_ (by first | (with_reducible assumption) | assumption)
          have q204 : x3_2 < (l0_2.length : Int):=oT_ (by first | (with_reducible assumption) | assumption)
          obtain ⟨ad204,e204,hx204_0⟩:=Kd.at_string HR0_2.out x3_2 p204 q204
          cases e204
          replace hx204_0:=(HB.out.cell (wL_ w _ hx204_0)).trans hx204_0
          replace p204:=eq_true p204
          replace q204:=eq_true q204
          go_wp2
          go_ret
          exact ⟨by first | rfl | (simp [errW_none,errW_some] <;> rfl) | (simp [*, errW_none,errW_some] <;> rfl),by exact bZ_ HB⟩
         ·rw [if_neg c15] at H
          have c15b0 : decide (60 < ((rdOf ByteArray.empty l0_2 x3_2).size : Int)) = false:=decide_eq_false c15
          have c15b1 : decide (60 < (rdOf ByteArray.empty l0_2 x3_2).size) = false:=decide_eq_false (by omega)
          clear c15
          have H':=aM_ H
          clear H
          have hcz17_0 : wr.cell? ⟨gb201,0,none⟩ = some (.bool true):=(kC_ BK201.out 0).trans rfl
          have hcz17_1 : wr.cell? ⟨gb201,1,none⟩ = some (.slice A0_1 l0_1.length c0_1):=(kC_ BK201.out 1).trans rfl
          have hcz17_2 : wr.cell? ⟨gb201,2,none⟩ = some (.slice A0_2 l0_2.length c0_2):=(kC_ BK201.out 2).trans rfl
          have hcz17_3 : wr.cell? ⟨gb201,3,none⟩ = some (.slice A0_3 l0_3.length c0_3):=(kC_ BK201.out 3).trans rfl
          have hfz17_0:=kF_ BK201.out 0
          have hfz17_1:=kF_ BK201.out 1
          have hfz17_2:=kF_ BK201.out 2
          have hfz17_3:=kF_ BK201.out 3
          have p204 : 0 ≤ (x3_2 : Int):=oT_ (by first | (with_reducible assumption) | assumption)
          have q204 : x3_2 < (l0_2.length : Int):=oT_ (by first | (with_reducible assumption) | assumption)
          obtain ⟨ad204,e204,hx204_0⟩:=Kd.at_string HR0_2.out x3_2 p204 q204
          cases e204
          replace hx204_0:=(HB.out.cell (wL_ w _ hx204_0)).trans hx204_0
          replace p204:=eq_true p204
          replace q204:=eq_true q204
          go_wp2
          go_roundg k2
          case measure=>have:=HJ1.out;have:=HK2.out;omega
          case rel=>exact ⟨(wrap64 (x3_2 + 1)),(by first | rfl | (simp;done) | (simp [*];done)),H', ⟨by have:=HJ1.out;have:=HK2.out;omega⟩,⟨by exact kZ_ BK201⟩,⟨by exact bZ_ HB⟩⟩
        ·rw [if_neg c14] at H
         exact absurd H (by simp)
       ·rw [if_neg c13] at H
        have c13b0 : decide (x3_2 < (l0_2.length : Int)) = false:=decide_eq_false c13
        clear c13
        by_cases c18 : (l0_1.length : Int) ≥ 1
        ·rw [if_pos c18] at H
         have c18b0 : decide (1 ≤ (l0_1.length : Int)) = true:=decide_eq_true c18
         have c18b1 : decide (1 ≤ l0_1.length) = true:=decide_eq_true (by omega)
         clear c18
         by_cases c19 : (l0_2.length : Int) = (l0_1.length : Int)
         ·rw [if_pos c19] at H
          have c19b0 : ((l0_2.length : Int) == (l0_1.length : Int)) = true:=beq_iff_eq.mpr c19
          have c19b1 : ((l0_2.length : Int) != (l0_1.length : Int)) = false:=bne_eq_false_iff_eq.mpr c19
          have c19b2 : (l0_2.length == l0_1.length) = true:=by first | simpa using c19 | (simp at c19 ⊢;omega)
          clear c19
          obtain rfl:=Option.some.inj H
          have hcz20_0 : wr.cell? ⟨gb201,0,none⟩ = some (.bool true):=(kC_ BK201.out 0).trans rfl
          have hcz20_1 : wr.cell? ⟨gb201,1,none⟩ = some (.slice A0_1 l0_1.length c0_1):=(kC_ BK201.out 1).trans rfl
          have hcz20_2 : wr.cell? ⟨gb201,2,none⟩ = some (.slice A0_2 l0_2.length c0_2):=(kC_ BK201.out 2).trans rfl
          have hcz20_3 : wr.cell? ⟨gb201,3,none⟩ = some (.slice A0_3 l0_3.length c0_3):=(kC_ BK201.out 3).trans rfl
          have hfz20_0:=kF_ BK201.out 0
          have hfz20_1:=kF_ BK201.out 1
          have hfz20_2:=kF_ BK201.out 2
          have hfz20_3:=kF_ BK201.out 3
          go_wp2
          go_ret
          exact ⟨by first | rfl | (simp [errW_none,errW_some] <;> rfl) | (simp [*, errW_none,errW_some] <;> rfl),by exact bZ_ HB⟩
         ·rw [if_neg c19] at H
          have c19b0 : ((l0_2.length : Int) == (l0_1.length : Int)) = false:=beq_eq_false_iff_ne.mpr c19
          have c19b1 : ((l0_2.length : Int) != (l0_1.length : Int)) = true:=bne_iff_ne.mpr c19
          have c19b2 : (l0_2.length == l0_1.length) = false:=by first | simpa using c19 | (simp at c19 ⊢;omega)
          obtain rfl:=Option.some.inj H
          have hcz21_0 : wr.cell? ⟨gb201,0,none⟩ = some (.bool true):=(kC_ BK201.out 0).trans rfl
          have hcz21_1 : wr.cell? ⟨gb201,1,none⟩ = some (.slice A0_1 l0_1.length c0_1):=(kC_ BK201.out 1).trans rfl
          have hcz21_2 : wr.cell? ⟨gb201,2,none⟩ = some (.slice A0_2 l0_2.length c0_2):=(kC_ BK201.out 2).trans rfl
          have hcz21_3 : wr.cell? ⟨gb201,3,none⟩ = some (.slice A0_3 l0_3.length c0_3):=(kC_ BK201.out 3).trans rfl
          have hfz21_0:=kF_ BK201.out 0
          have hfz21_1:=kF_ BK201.out 1
          have hfz21_2:=kF_ BK201.out 2
          have hfz21_3:=kF_ BK201.out 3
          go_wp2
          go_ret
          exact ⟨by first | rfl | (simp [errW_none,errW_some] <;> rfl) | (simp [*, errW_none,errW_some] <;> rfl),by exact bZ_ HB⟩
        ·rw [if_neg c18] at H
         have c18b0 : decide (1 ≤ (l0_1.length : Int)) = false:=decide_eq_false c18
         have c18b1 : decide (1 ≤ l0_1.length) = false:=decide_eq_false (by omega)
         clear c18
         obtain rfl:=Option.some.inj H
         have hcz22_0 : wr.cell? ⟨gb201,0,none⟩ = some (.bool true):=(kC_ BK201.out 0).trans rfl
         have hcz22_1 : wr.cell? ⟨gb201,1,none⟩ = some (.slice A0_1 l0_1.length c0_1):=(kC_ BK201.out 1).trans rfl
         have hcz22_2 : wr.cell? ⟨gb201,2,none⟩ = some (.slice A0_2 l0_2.length c0_2):=(kC_ BK201.out 2).trans rfl
         have hcz22_3 : wr.cell? ⟨gb201,3,none⟩ = some (.slice A0_3 l0_3.length c0_3):=(kC_ BK201.out 3).trans rfl
         have hfz22_0:=kF_ BK201.out 0
         have hfz22_1:=kF_ BK201.out 1
         have hfz22_2:=kF_ BK201.out 2
         have hfz22_3:=kF_ BK201.out 3
         go_wp2
         go_ret
         exact ⟨by first | rfl | (simp [errW_none,errW_some] <;> rfl) | (simp [*, errW_none,errW_some] <;> rfl),by exact bZ_ HB⟩
    ·replace c11:=Bool.eq_false_iff.mpr c11
     subst c11
     have H1 : (spec_NodeOk.l1 kj1 0 false l0_1 l0_2 l0_3) = some r:=by rw [if_neg (show ¬ (false = true) by decide)] at H;exact H
     clear H
     have H:=H1
     clear H1
     have H':=aM_ H
     clear H
     have hcz23_0 : wc.cell? ⟨gb201,0,none⟩ = some (.bool false):=(kC_ BK201.out 0).trans rfl
     have hcz23_1 : wc.cell? ⟨gb201,1,none⟩ = some (.slice A0_1 l0_1.length c0_1):=(kC_ BK201.out 1).trans rfl
     have hcz23_2 : wc.cell? ⟨gb201,2,none⟩ = some (.slice A0_2 l0_2.length c0_2):=(kC_ BK201.out 2).trans rfl
     have hcz23_3 : wc.cell? ⟨gb201,3,none⟩ = some (.slice A0_3 l0_3.length c0_3):=(kC_ BK201.out 3).trans rfl
     have hfz23_0:=kF_ BK201.out 0
     have hfz23_1:=kF_ BK201.out 1
     have hfz23_2:=kF_ BK201.out 2
     have hfz23_3:=kF_ BK201.out 3
     go_wp2
     (try simp only [Act.put,sI_,sS_,sZ_])
     go_loopg [4] kj1 (fun kq v4 w'=>∃ (x4_2 : Int),v4 = .int .i64 x4_2 ∧ Aside0 (spec_NodeOk.l1 kq x4_2 false l0_1 l0_2 l0_3 = some r) ∧ Aside0 (kq ≤ kj1) ∧ Aside0 (w'.heap[gb201]? = some (.cells #[.bool false,(.slice A0_1 l0_1.length c0_1),(.slice A0_2 l0_2.length c0_2),(.slice A0_3 l0_3.length c0_3)] 29 (0,0))) ∧ Aside0 (Below w.heap.size w w'))
     case atStart=>exact ⟨(0),(by first | rfl | (simp;done) | (simp [*];done)),H', ⟨Nat.le_refl _⟩,⟨by exact kZ_ BK201⟩,⟨by exact bZ_ HB⟩⟩
     case round =>
      clear H'
      clear hcz23_0 hcz23_1 hcz23_2 hcz23_3 hfz23_0 hfz23_1 hfz23_2 hfz23_3
      obtain ⟨x4_2,rfl,HA,HK2,BK201,HB⟩:=hrel
      cases gk with
      | zero=>exact absurd HA.out (by simp [spec_NodeOk.l1])
      | succ k2 =>
       have H:=HA.out
       clear HA
       simp only [spec_NodeOk.l1] at H
       by_cases c24 : x4_2 < (l0_3.length : Int)
       ·rw [if_pos c24] at H
        have c24b0 : decide (x4_2 < (l0_3.length : Int)) = true:=decide_eq_true c24
        clear c24
        by_cases c25 : 0 ≤ x4_2
        ·rw [if_pos c25] at H
         have c25b0 : decide (0 ≤ x4_2) = true:=decide_eq_true c25
         clear c25
         replace H:=oB_ H
         obtain ⟨t206,A260,H⟩:=H
         replace H : (if t206 = true then (spec_NodeOk.l1 k2 (wrap64 (x4_2 + 1)) false l0_1 l0_2 l0_3) else (some false)) = some r:=H
         have A26:=aM_ A260
         clear A260
         by_cases c27 : t206 = true
         ·subst c27
          have H1 : (spec_NodeOk.l1 k2 (wrap64 (x4_2 + 1)) false l0_1 l0_2 l0_3) = some r:=by rw [if_pos rfl] at H;exact H
          clear H
          have H:=H1
          clear H1
          have H':=aM_ H
          clear H
          have hcz28_0 : wr.cell? ⟨gb201,0,none⟩ = some (.bool false):=(kC_ BK201.out 0).trans rfl
          have hcz28_1 : wr.cell? ⟨gb201,1,none⟩ = some (.slice A0_1 l0_1.length c0_1):=(kC_ BK201.out 1).trans rfl
          have hcz28_2 : wr.cell? ⟨gb201,2,none⟩ = some (.slice A0_2 l0_2.length c0_2):=(kC_ BK201.out 2).trans rfl
          have hcz28_3 : wr.cell? ⟨gb201,3,none⟩ = some (.slice A0_3 l0_3.length c0_3):=(kC_ BK201.out 3).trans rfl
          have hfz28_0:=kF_ BK201.out 0
          have hfz28_1:=kF_ BK201.out 1
          have hfz28_2:=kF_ BK201.out 2
          have hfz28_3:=kF_ BK201.out 3
          have p205 : 0 ≤ (x4_2 : Int):=oT_ (by first | (with_reducible assumption) | assumption)
          have q205 : x4_2 < (l0_3.length : Int):=oT_ (by first | (with_reducible assumption) | assumption)
          obtain ⟨ad205,e205,hx205_0⟩:=Kd.at_int HR0_3.out x4_2 p205 q205
          cases e205
          replace hx205_0:=(HB.out.cell (wL_ w _ hx205_0)).trans hx205_0
          replace p205:=eq_true p205
          replace q205:=eq_true q205
          go_wp2_with (first | ((with_reducible refine gate_callee (f:=89) rfl ?_);refine goesL_ (some 61) rfl rfl Try.func89 (by kernel_rfl) rfl #[.int .i64 (rd l0_3 x4_2),.int .i64 2,.int .i64 47] rfl (by (try simp only [mA_,mC_,mN_]);first | done | rfl | (simp only [lD_,lT_];rfl)) ?_;(with_reducible refine (spec_l1In.calls (rd l0_3 x4_2) 2 47 true _ A26.out).mono ?_);rintro e w' ⟨rfl,⟨nd,rfl⟩⟩;refine ⟨_,rfl,?_⟩))
          go_roundg k2
          case measure=>have:=HJ1.out;have:=HK2.out;omega
          case rel=>exact ⟨(wrap64 (x4_2 + 1)),(by first | rfl | (simp;done) | (simp [*];done)),H', ⟨by have:=HJ1.out;have:=HK2.out;omega⟩,⟨by exact kZ_ BK201⟩,⟨by exact bZ_ HB⟩⟩
         ·replace c27:=Bool.eq_false_iff.mpr c27
          subst c27
          have H1 : (some false) = some r:=by rw [if_neg (show ¬ (false = true) by decide)] at H;exact H
          clear H
          have H:=H1
          clear H1
          obtain rfl:=Option.some.inj H
          have hcz29_0 : wr.cell? ⟨gb201,0,none⟩ = some (.bool false):=(kC_ BK201.out 0).trans rfl
          have hcz29_1 : wr.cell? ⟨gb201,1,none⟩ = some (.slice A0_1 l0_1.length c0_1):=(kC_ BK201.out 1).trans rfl
          have hcz29_2 : wr.cell? ⟨gb201,2,none⟩ = some (.slice A0_2 l0_2.length c0_2):=(kC_ BK201.out 2).trans rfl
          have hcz29_3 : wr.cell? ⟨gb201,3,none⟩ = some (.slice A0_3 l0_3.length c0_3):=(kC_ BK201.out 3).trans rfl
          have hfz29_0:=kF_ BK201.out 0
          have hfz29_1:=kF_ BK201.out 1
          have hfz29_2:=kF_ BK201.out 2
          have hfz29_3:=kF_ BK201.out 3
          have p205 : 0 ≤ (x4_2 : Int):=oT_ (by first | (with_reducible assumption) | assumption)
          have q205 : x4_2 < (l0_3.length : Int):=oT_ (by first | (with_reducible assumption) | assumption)
          obtain ⟨ad205,e205,hx205_0⟩:=Kd.at_int HR0_3.out x4_2 p205 q205
          cases e205
          replace hx205_0:=(HB.out.cell (wL_ w _ hx205_0)).trans hx205_0
          replace p205:=eq_true p205
          replace q205:=eq_true q205
          go_wp2_with (first | ((with_reducible refine gate_callee (f:=89) rfl ?_);refine goesL_ (some 61) rfl rfl Try.func89 (by kernel_rfl) rfl #[.int .i64 (rd l0_3 x4_2),.int .i64 2,.int .i64 47] rfl (by (try simp only [mA_,mC_,mN_]);first | done | rfl | (simp only [lD_,lT_];rfl)) ?_;(with_reducible refine (spec_l1In.calls (rd l0_3 x4_2) 2 47 false _ A26.out).mono ?_);rintro e w' ⟨rfl,⟨nd,rfl⟩⟩;refine ⟨_,rfl,?_⟩))
          go_ret
          exact ⟨by first | rfl | (simp [errW_none,errW_some] <;> rfl) | (simp [*, errW_none,errW_some] <;> rfl),by exact bZ_ HB⟩
        ·rw [if_neg c25] at H
         exact absurd H (by simp)
       ·rw [if_neg c24] at H
        have c24b0 : decide (x4_2 < (l0_3.length : Int)) = false:=decide_eq_false c24
        clear c24
        by_cases c30 : (l0_3.length : Int) ≥ 1
        ·rw [if_pos c30] at H
         have c30b0 : decide (1 ≤ (l0_3.length : Int)) = true:=decide_eq_true c30
         have c30b1 : decide (1 ≤ l0_3.length) = true:=decide_eq_true (by omega)
         clear c30
         by_cases c31 : (l0_1.length : Int) = (wrap64 ((l0_3.length : Int) - 1))
         ·rw [if_pos c31] at H
          have c31b0 : ((l0_1.length : Int) == (wrap64 ((l0_3.length : Int) - 1))) = true:=beq_iff_eq.mpr c31
          have c31b1 : ((l0_1.length : Int) != (wrap64 ((l0_3.length : Int) - 1))) = false:=bne_eq_false_iff_eq.mpr c31
          clear c31
          obtain rfl:=Option.some.inj H
          have hcz32_0 : wr.cell? ⟨gb201,0,none⟩ = some (.bool false):=(kC_ BK201.out 0).trans rfl
          have hcz32_1 : wr.cell? ⟨gb201,1,none⟩ = some (.slice A0_1 l0_1.length c0_1):=(kC_ BK201.out 1).trans rfl
          have hcz32_2 : wr.cell? ⟨gb201,2,none⟩ = some (.slice A0_2 l0_2.length c0_2):=(kC_ BK201.out 2).trans rfl
          have hcz32_3 : wr.cell? ⟨gb201,3,none⟩ = some (.slice A0_3 l0_3.length c0_3):=(kC_ BK201.out 3).trans rfl
          have hfz32_0:=kF_ BK201.out 0
          have hfz32_1:=kF_ BK201.out 1
          have hfz32_2:=kF_ BK201.out 2
          have hfz32_3:=kF_ BK201.out 3
          go_wp2
          go_ret
          exact ⟨by first | rfl | (simp [errW_none,errW_some] <;> rfl) | (simp [*, errW_none,errW_some] <;> rfl),by exact bZ_ HB⟩
         ·rw [if_neg c31] at H
          have c31b0 : ((l0_1.length : Int) == (wrap64 ((l0_3.length : Int) - 1))) = false:=beq_eq_false_iff_ne.mpr c31
          have c31b1 : ((l0_1.length : Int) != (wrap64 ((l0_3.length : Int) - 1))) = true:=bne_iff_ne.mpr c31
          obtain rfl:=Option.some.inj H
          have hcz33_0 : wr.cell? ⟨gb201,0,none⟩ = some (.bool false):=(kC_ BK201.out 0).trans rfl
          have hcz33_1 : wr.cell? ⟨gb201,1,none⟩ = some (.slice A0_1 l0_1.length c0_1):=(kC_ BK201.out 1).trans rfl
          have hcz33_2 : wr.cell? ⟨gb201,2,none⟩ = some (.slice A0_2 l0_2.length c0_2):=(kC_ BK201.out 2).trans rfl
          have hcz33_3 : wr.cell? ⟨gb201,3,none⟩ = some (.slice A0_3 l0_3.length c0_3):=(kC_ BK201.out 3).trans rfl
          have hfz33_0:=kF_ BK201.out 0
          have hfz33_1:=kF_ BK201.out 1
          have hfz33_2:=kF_ BK201.out 2
          have hfz33_3:=kF_ BK201.out 3
          go_wp2
          go_ret
          exact ⟨by first | rfl | (simp [errW_none,errW_some] <;> rfl) | (simp [*, errW_none,errW_some] <;> rfl),by exact bZ_ HB⟩
        ·rw [if_neg c30] at H
         have c30b0 : decide (1 ≤ (l0_3.length : Int)) = false:=decide_eq_false c30
         have c30b1 : decide (1 ≤ l0_3.length) = false:=decide_eq_false (by omega)
         clear c30
         obtain rfl:=Option.some.inj H
         have hcz34_0 : wr.cell? ⟨gb201,0,none⟩ = some (.bool false):=(kC_ BK201.out 0).trans rfl
         have hcz34_1 : wr.cell? ⟨gb201,1,none⟩ = some (.slice A0_1 l0_1.length c0_1):=(kC_ BK201.out 1).trans rfl
         have hcz34_2 : wr.cell? ⟨gb201,2,none⟩ = some (.slice A0_2 l0_2.length c0_2):=(kC_ BK201.out 2).trans rfl
         have hcz34_3 : wr.cell? ⟨gb201,3,none⟩ = some (.slice A0_3 l0_3.length c0_3):=(kC_ BK201.out 3).trans rfl
         have hfz34_0:=kF_ BK201.out 0
         have hfz34_1:=kF_ BK201.out 1
         have hfz34_2:=kF_ BK201.out 2
         have hfz34_3:=kF_ BK201.out 3
         go_wp2
         go_ret
         exact ⟨by first | rfl | (simp [errW_none,errW_some] <;> rfl) | (simp [*, errW_none,errW_some] <;> rfl),by exact bZ_ HB⟩
end Go.Proofs.Ytllgmgpfdnofmaa.PFnNodes
