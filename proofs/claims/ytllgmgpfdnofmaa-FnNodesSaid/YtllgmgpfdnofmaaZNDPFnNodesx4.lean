import Derived.Test.YtllgmgpfdnofmaaZNDPFnNodesx0
import Derived.Test.YtllgmgpfdnofmaaZNDPFnNodesx3
namespace Go.Proofs.Ytllgmgpfdnofmaa.PFnNodes
open Go.RowKit Go.Proofs.YtllgmgpfdnofmaaW.PrintWords Go.Proofs.YtllgmgpfdnofmaaW.PrintLast Go.Proofs.YtllgmgpfdnofmaaW.PrintMore Go.Proofs.Ytllgmgpfdnofmaa.Xtra
attribute [local go_sem] max2_int min2_int max_two min_two max_three min_three max_four min_four str_leq str_gtr str_geq setCell_drewN cell_set2 cell_set3   -- for this text's walks alone
set_option linter.unusedVariables false
set_option linter.unusedSimpArgs false
mutual
def spec_l14Put.j0 : Nat → Int → Bool → List ByteArray → List ByteArray → List Int → Option (List Int)
 | 0,_,_,_,_,_=>none
 | k + 1,x3,x173000,x173001,x173002,x173003=>(spec_PutU.f k (([] : List Int)) x3).bind fun t176=>((spec_PutU.f k t176 (x173001.length : Int)).bind fun t179=>(spec_l14Put.l0 k t179 0 x173000 x173001 x173002 x173003))
def spec_l14Put.l0 : Nat → List Int → Int → Bool → List ByteArray → List ByteArray → List Int → Option (List Int)
 | 0,_,_,_,_,_,_=>none
 | k + 1,x4,x5,x173000,x173001,x173002,x173003=>if x5 < (x173001.length : Int) then (if 0 ≤ x5 then ((spec_PutText.f k x4 (rdOf ByteArray.empty x173001 x5)).bind fun t183=>(spec_l14Put.l0 k t183 (wrap64 (x5 + 1)) x173000 x173001 x173002 x173003)) else (none)) else (spec_l14Put.l1 k x4 0 x173000 x173001 x173002 x173003)
def spec_l14Put.j3 : Nat → List Int → Bool → List ByteArray → List ByteArray → List Int → Option (List Int)
 | 0,_,_,_,_,_=>none
 | k + 1,x4,x173000,x173001,x173002,x173003=>spec_l14Put.l2 k x4 0 x173000 x173001 x173002 x173003
def spec_l14Put.l2 : Nat → List Int → Int → Bool → List ByteArray → List ByteArray → List Int → Option (List Int)
 | 0,_,_,_,_,_,_=>none
 | k + 1,x4,x7,x173000,x173001,x173002,x173003=>if x7 < (x173003.length : Int) then (if x173000 = true then (some x4) else (if 0 ≤ x7 then ((spec_PutU.f k x4 (rd x173003 x7)).bind fun t191=>(spec_l14Put.l2 k t191 (wrap64 (x7 + 1)) x173000 x173001 x173002 x173003)) else (none))) else (some x4)
def spec_l14Put.l1 : Nat → List Int → Int → Bool → List ByteArray → List ByteArray → List Int → Option (List Int)
 | 0,_,_,_,_,_,_=>none
 | k + 1,x4,x6,x173000,x173001,x173002,x173003=>if x6 < (x173002.length : Int) then (if x173000 = true then (if 0 ≤ x6 then ((spec_PutText.f k x4 (rdOf ByteArray.empty x173002 x6)).bind fun t187=>(spec_l14Put.l1 k t187 (wrap64 (x6 + 1)) x173000 x173001 x173002 x173003)) else (none)) else (spec_l14Put.j3 k x4 x173000 x173001 x173002 x173003)) else (spec_l14Put.j3 k x4 x173000 x173001 x173002 x173003)
end
def spec_l14Put.f (k : Nat) (a0_0 : Bool) (l0_1 : List ByteArray) (l0_2 : List ByteArray) (l0_3 : List Int) : Option (List Int):=if a0_0 = true then (spec_l14Put.j0 k 1 a0_0 l0_1 l0_2 l0_3) else (spec_l14Put.j0 k 0 a0_0 l0_1 l0_2 l0_3)
theorem spec_l14Put.mono_l : ∀ k,(∀ y0 y1 y2 y3 y4,LeO (spec_l14Put.j0 k y0 y1 y2 y3 y4) (spec_l14Put.j0 (k + 1) y0 y1 y2 y3 y4)) ∧ (∀ y0 y1 y2 y3 y4 y5,LeO (spec_l14Put.l0 k y0 y1 y2 y3 y4 y5) (spec_l14Put.l0 (k + 1) y0 y1 y2 y3 y4 y5)) ∧ (∀ y0 y1 y2 y3 y4,LeO (spec_l14Put.j3 k y0 y1 y2 y3 y4) (spec_l14Put.j3 (k + 1) y0 y1 y2 y3 y4)) ∧ (∀ y0 y1 y2 y3 y4 y5,LeO (spec_l14Put.l2 k y0 y1 y2 y3 y4 y5) (spec_l14Put.l2 (k + 1) y0 y1 y2 y3 y4 y5)) ∧ (∀ y0 y1 y2 y3 y4 y5,LeO (spec_l14Put.l1 k y0 y1 y2 y3 y4 y5) (spec_l14Put.l1 (k + 1) y0 y1 y2 y3 y4 y5))
 | 0=>⟨fun _ _ _ _ _ r h=>by simp [spec_l14Put.j0] at h,fun _ _ _ _ _ _ r h=>by simp [spec_l14Put.l0] at h,fun _ _ _ _ _ r h=>by simp [spec_l14Put.j3] at h,fun _ _ _ _ _ _ r h=>by simp [spec_l14Put.l2] at h,fun _ _ _ _ _ _ r h=>by simp [spec_l14Put.l1] at h⟩
 | k + 1=>by
  obtain ⟨ih0,ih1,ih2,ih3,ih4⟩:=spec_l14Put.mono_l k
  refine ⟨?_,?_,?_,?_,?_⟩
  ·intro y0 y1 y2 y3 y4
   unfold spec_l14Put.j0
   repeat' first
   | (with_reducible exact ih0 _ _ _ _ _)
   | (with_reducible exact ih1 _ _ _ _ _ _)
   | (with_reducible exact ih2 _ _ _ _ _)
   | (with_reducible exact ih3 _ _ _ _ _ _)
   | (with_reducible exact ih4 _ _ _ _ _ _)
   | (with_reducible exact spec_PutText.mono _ _ _)
   | (with_reducible exact spec_PutU.mono _ _ _)
   | (with_reducible exact LeO.refl _)
   | (with_reducible exact LeO.none _)
   | (with_reducible refine LeO.ite ?_ ?_)
   | (with_reducible refine LeO.bind ?_ (fun _=>?_))
   | exact ih0 _ _ _ _ _
   | exact ih1 _ _ _ _ _ _
   | exact ih2 _ _ _ _ _
   | exact ih3 _ _ _ _ _ _
   | exact ih4 _ _ _ _ _ _
   | exact spec_PutText.mono _ _ _
   | exact spec_PutU.mono _ _ _
   | exact LeO.none _
   | refine LeO.ite ?_ ?_
   | refine LeO.bind ?_ (fun _=>?_)
  ·intro y0 y1 y2 y3 y4 y5
   unfold spec_l14Put.l0
   repeat' first
   | (with_reducible exact ih0 _ _ _ _ _)
   | (with_reducible exact ih1 _ _ _ _ _ _)
   | (with_reducible exact ih2 _ _ _ _ _)
   | (with_reducible exact ih3 _ _ _ _ _ _)
   | (with_reducible exact ih4 _ _ _ _ _ _)
   | (with_reducible exact spec_PutText.mono _ _ _)
   | (with_reducible exact spec_PutU.mono _ _ _)
   | (with_reducible exact LeO.refl _)
   | (with_reducible exact LeO.none _)
   | (with_reducible refine LeO.ite ?_ ?_)
   | (with_reducible refine LeO.bind ?_ (fun _=>?_))
   | exact ih0 _ _ _ _ _
   | exact ih1 _ _ _ _ _ _
   | exact ih2 _ _ _ _ _
   | exact ih3 _ _ _ _ _ _
   | exact ih4 _ _ _ _ _ _
   | exact spec_PutText.mono _ _ _
   | exact spec_PutU.mono _ _ _
   | exact LeO.none _
   | refine LeO.ite ?_ ?_
   | refine LeO.bind ?_ (fun _=>?_)
  ·intro y0 y1 y2 y3 y4
   unfold spec_l14Put.j3
   repeat' first
   | (with_reducible exact ih0 _ _ _ _ _)
   | (with_reducible exact ih1 _ _ _ _ _ _)
   | (with_reducible exact ih2 _ _ _ _ _)
   | (with_reducible exact ih3 _ _ _ _ _ _)
   | (with_reducible exact ih4 _ _ _ _ _ _)
   | (with_reducible exact spec_PutText.mono _ _ _)
   | (with_reducible exact spec_PutU.mono _ _ _)
   | (with_reducible exact LeO.refl _)
   | (with_reducible exact LeO.none _)
   | (with_reducible refine LeO.ite ?_ ?_)
   | (with_reducible refine LeO.bind ?_ (fun _=>?_))
   | exact ih0 _ _ _ _ _
   | exact ih1 _ _ _ _ _ _
   | exact ih2 _ _ _ _ _
   | exact ih3 _ _ _ _ _ _
   | exact ih4 _ _ _ _ _ _
   | exact spec_PutText.mono _ _ _
   | exact spec_PutU.mono _ _ _
   | exact LeO.none _
   | refine LeO.ite ?_ ?_
   | refine LeO.bind ?_ (fun _=>?_)
  ·intro y0 y1 y2 y3 y4 y5
   unfold spec_l14Put.l2
   repeat' first
   | (with_reducible exact ih0 _ _ _ _ _)
   | (with_reducible exact ih1 _ _ _ _ _ _)
   | (with_reducible exact ih2 _ _ _ _ _)
   | (with_reducible exact ih3 _ _ _ _ _ _)
   | (with_reducible exact ih4 _ _ _ _ _ _)
   | (with_reducible exact spec_PutText.mono _ _ _)
   | (with_reducible exact spec_PutU.mono _ _ _)
   | (with_reducible exact LeO.refl _)
   | (with_reducible exact LeO.none _)
   | (with_reducible refine LeO.ite ?_ ?_)
   | (with_reducible refine LeO.bind ?_ (fun _=>?_))
   | exact ih0 _ _ _ _ _
   | exact ih1 _ _ _ _ _ _
   | exact ih2 _ _ _ _ _
   | exact ih3 _ _ _ _ _ _
   | exact ih4 _ _ _ _ _ _
   | exact spec_PutText.mono _ _ _
   | exact spec_PutU.mono _ _ _
   | exact LeO.none _
   | refine LeO.ite ?_ ?_
   | refine LeO.bind ?_ (fun _=>?_)
  ·intro y0 y1 y2 y3 y4 y5
   unfold spec_l14Put.l1
   repeat' first
   | (with_reducible exact ih0 _ _ _ _ _)
   | (with_reducible exact ih1 _ _ _ _ _ _)
   | (with_reducible exact ih2 _ _ _ _ _)
   | (with_reducible exact ih3 _ _ _ _ _ _)
   | (with_reducible exact ih4 _ _ _ _ _ _)
   | (with_reducible exact spec_PutText.mono _ _ _)
   | (with_reducible exact spec_PutU.mono _ _ _)
   | (with_reducible exact LeO.refl _)
   | (with_reducible exact LeO.none _)
   | (with_reducible refine LeO.ite ?_ ?_)
   | (with_reducible refine LeO.bind ?_ (fun _=>?_))
   | exact ih0 _ _ _ _ _
   | exact ih1 _ _ _ _ _ _
   | exact ih2 _ _ _ _ _
   | exact ih3 _ _ _ _ _ _
   | exact ih4 _ _ _ _ _ _
   | exact spec_PutText.mono _ _ _
   | exact spec_PutU.mono _ _ _
   | exact LeO.none _
   | refine LeO.ite ?_ ?_
   | refine LeO.bind ?_ (fun _=>?_)
theorem spec_l14Put.mono : ∀ a0 a1 a2 a3 k,LeO (spec_l14Put.f k a0 a1 a2 a3) (spec_l14Put.f (k + 1) a0 a1 a2 a3):=by
 intro a0 a1 a2 a3 k
 obtain ⟨ih0,ih1,ih2,ih3,ih4⟩:=spec_l14Put.mono_l k
 unfold spec_l14Put.f
 repeat' first
   | (with_reducible exact ih0 _ _ _ _ _)
   | (with_reducible exact ih1 _ _ _ _ _ _)
   | (with_reducible exact ih2 _ _ _ _ _)
   | (with_reducible exact ih3 _ _ _ _ _ _)
   | (with_reducible exact ih4 _ _ _ _ _ _)
   | (with_reducible exact spec_PutText.mono _ _ _)
   | (with_reducible exact spec_PutU.mono _ _ _)
   | (with_reducible exact LeO.refl _)
   | (with_reducible exact LeO.none _)
   | (with_reducible refine LeO.ite ?_ ?_)
   | (with_reducible refine LeO.bind ?_ (fun _=>?_))
   | exact ih0 _ _ _ _ _
   | exact ih1 _ _ _ _ _ _
   | exact ih2 _ _ _ _ _
   | exact ih3 _ _ _ _ _ _
   | exact ih4 _ _ _ _ _ _
   | exact spec_PutText.mono _ _ _
   | exact spec_PutU.mono _ _ _
   | exact LeO.none _
   | refine LeO.ite ?_ ?_
   | refine LeO.bind ?_ (fun _=>?_)
def spec_l14Put.T4 : Bool × List (List Nat × List Nat):=(true,[([],[]),([],[]),([0,1],[0,1]),([],[]),([3],[3]),([4],[4]),([2,5,2],[2,5]),([6,6,0,1,2,3,4,5,6],[6])])
def spec_l14Put.B4 : List Nat:=[0,0,3,0,8,24,63,127]
theorem spec_l14Put.tab4 : rtab .any (opsOf Try.f68 4) = spec_l14Put.T4:=by kernel_rfl
theorem spec_l14Put.bits4 : waitsOk spec_l14Put.T4.2 spec_l14Put.B4 = true:=by kernel_rfl
set_option maxHeartbeats 8000000 in
set_option maxRecDepth 100000 in
theorem spec_l14Put.calls (k : Nat) (a0_0 : Bool) (A0_1 : Option Addr) (c0_1 : Nat) (l0_1 : List ByteArray) (A0_2 : Option Addr) (c0_2 : Nat) (l0_2 : List ByteArray) (A0_3 : Option Addr) (c0_3 : Nat) (l0_3 : List Int) (r : List Int) (w : World) (hr0_1 : Kd.C Kd.string w A0_1 l0_1.length l0_1) (hc0_1 : l0_1.length ≤ c0_1) (hr0_2 : Kd.C Kd.string w A0_2 l0_2.length l0_2) (hc0_2 : l0_2.length ≤ c0_2) (hr0_3 : Kd.C (Kd.int .i64) w A0_3 l0_3.length l0_3) (hc0_3 : l0_3.length ≤ c0_3) (h : spec_l14Put.f k a0_0 l0_1 l0_2 l0_3 = some r) :
  Calls Try.prog 68 #[.agg #[.bool a0_0,.slice A0_1 l0_1.length c0_1,.slice A0_2 l0_2.length c0_2,.slice A0_3 l0_3.length c0_3]] w fun e w'=>∃ v0_ : Value,e = .returned (v0_) ∧ Kd.R (Kd.int .u8) 5 w' w.heap.size (fun _=>True) v0_ r ∧ Below w.heap.size w w':=by
 have hu29:=Try.underlying29
 have HR0_1:=aM_ hr0_1
 have HC0_1:=aM_ hc0_1
 clear hr0_1 hc0_1
 have HR0_2:=aM_ hr0_2
 have HC0_2:=aM_ hc0_2
 clear hr0_2 hc0_2
 have HR0_3:=aM_ hr0_3
 have HC0_3:=aM_ hc0_3
 clear hr0_3 hc0_3
 have HB:=aM_ (Below.refl w.heap.size w)
 have H : (if a0_0 = true then (spec_l14Put.j0 k 1 a0_0 l0_1 l0_2 l0_3) else (spec_l14Put.j0 k 0 a0_0 l0_1 l0_2 l0_3)) = some r:=h
 clear h
 have HC2:=aM_ H
 clear H
 go_enter Try.func68,Try.ntmps68
 go_upto_if 9 with (first | ((with_reducible refine gate_dst (N:=1) rfl ?_);refine box_event ?hg (N:=1) ?hd (cs:=#[.bool a0_0,.slice A0_1 l0_1.length c0_1,.slice A0_2 l0_2.length c0_2,.slice A0_3 l0_3.length c0_3]) (t:=29) ?hr ?_;(case hd=>rfl);(case hg=>rfl);(case hr=>first | (go_simp;done) | (go_simp;rfl));intro gb172 hg w3 hbox hb;have n0_:=aM_ (bT_ (by exact bZ_ HB) hb);have n1_:=aM_ (hbox);have n2_:=aM_ ((by rw [hg];exact (bS_ (by exact bZ_ HB)) : w.heap.size ≤ gb172));have n3_:=aM_ ((by rw [hg];exact (bS_ (by exact bZ_ HB)) : w.heap.size ≤ gb172));clear HB;have HB:=n0_;have BK172:=n1_;have GW172:=n2_;have GE172:=n3_;clear n0_ n1_ n2_ n3_ hb hbox hg;have hcz4_0 : w3.cell? ⟨gb172,0,none⟩ = some (.bool a0_0):=(kC_ BK172.out 0).trans rfl;have hcz4_1 : w3.cell? ⟨gb172,1,none⟩ = some (.slice A0_1 l0_1.length c0_1):=(kC_ BK172.out 1).trans rfl;have hcz4_2 : w3.cell? ⟨gb172,2,none⟩ = some (.slice A0_2 l0_2.length c0_2):=(kC_ BK172.out 2).trans rfl;have hcz4_3 : w3.cell? ⟨gb172,3,none⟩ = some (.slice A0_3 l0_3.length c0_3):=(kC_ BK172.out 3).trans rfl;have hfz4_0:=kF_ BK172.out 0;have hfz4_1:=kF_ BK172.out 1;have hfz4_2:=kF_ BK172.out 2;have hfz4_3:=kF_ BK172.out 3))
 (try simp only [Act.put,sI_,sZ_,sS_])
 go_cut [3] (fun v3 wc=>∃ (kq : Nat) (x3_1 : Int),v3 = .int .i64 x3_1 ∧ Aside0 (spec_l14Put.j0 kq x3_1 a0_0 l0_1 l0_2 l0_3 = some r) ∧ Aside0 (kq ≤ k) ∧ Aside0 (wc.heap[gb172]? = some (.cells #[.bool a0_0,(.slice A0_1 l0_1.length c0_1),(.slice A0_2 l0_2.length c0_2),(.slice A0_3 l0_3.length c0_3)] 29 (0,0))) ∧ Aside0 (Below w.heap.size w wc))
 case first =>
  have H:=HC2.out
  clear HC2
  by_cases c5 : a0_0 = true
  ·subst c5
   have H1 : (spec_l14Put.j0 k 1 true l0_1 l0_2 l0_3) = some r:=by rw [if_pos rfl] at H;exact H
   clear H
   have H:=H1
   clear H1
   have H':=aM_ H
   clear H
   go_wp2
   (first | go_meet | (refine Met.intro ?_;go_step;(repeat apply Exists.intro);refine ⟨?rel,?eq⟩;(case eq=>(try simp only [c8b0]);(try simp only [c10b0]);(try simp only [c10b0]);rfl)))
   case rel=>exact ⟨_,(1),(by first | rfl | (simp;done) | (simp [*];done)),H', ⟨by first | omega | exact Nat.le_refl _⟩,⟨by exact kZ_ BK172⟩,⟨by exact bZ_ HB⟩⟩
  ·replace c5:=Bool.eq_false_iff.mpr c5
   subst c5
   have H1 : (spec_l14Put.j0 k 0 false l0_1 l0_2 l0_3) = some r:=by rw [if_neg (show ¬ (false = true) by decide)] at H;exact H
   clear H
   have H:=H1
   clear H1
   have H':=aM_ H
   clear H
   go_wp2
   (first | go_meet | (refine Met.intro ?_;go_step;(repeat apply Exists.intro);refine ⟨?rel,?eq⟩;(case eq=>(try simp only [c8b0]);(try simp only [c10b0]);(try simp only [c10b0]);rfl)))
   case rel=>exact ⟨_,(0),(by first | rfl | (simp;done) | (simp [*];done)),H', ⟨by first | omega | exact Nat.le_refl _⟩,⟨by exact kZ_ BK172⟩,⟨by exact bZ_ HB⟩⟩
 case rest =>
  clear HC2 hcz4_0 hcz4_1 hcz4_2 hcz4_3 hfz4_0 hfz4_1 hfz4_2 hfz4_3
  obtain ⟨kq,x3_1,rfl,HA,HJ1,BK172,HB⟩:=hcut
  cases kq with
  | zero=>exact absurd HA.out (by simp [spec_l14Put.j0])
  | succ kj1 =>
   have H:=HA.out
   clear HA
   simp only [spec_l14Put.j0] at H
   obtain ⟨y173,hy173⟩ : ∃ y_ : List Int,y_ = (([] : List Int)):=⟨_,rfl⟩
   replace H : ((spec_PutU.f kj1 y173 x3_1).bind fun t176=>((spec_PutU.f kj1 t176 (l0_1.length : Int)).bind fun t179=>(spec_l14Put.l0 kj1 t179 0 a0_0 l0_1 l0_2 l0_3))) = some r:=by first | (rw [hy173];with_reducible exact H) | (have H2_:=(Option.bind_some _ _).symm.trans H;rw [hy173];with_reducible exact H2_) | (have H2_:=(Option.bind_some _ _).symm.trans H;with_reducible exact H2_) | with_reducible exact H | (rw [hy173];exact H) | exact H
   have Ny173:=aM_ hy173
   clear hy173
   replace H:=oB_ H
   obtain ⟨t176,A60,H⟩:=H
   replace H : ((spec_PutU.f kj1 t176 (l0_1.length : Int)).bind fun t179=>(spec_l14Put.l0 kj1 t179 0 a0_0 l0_1 l0_2 l0_3)) = some r:=H
   have A6:=aM_ A60
   clear A60
   replace H:=oB_ H
   obtain ⟨t179,A70,H⟩:=H
   replace H : (spec_l14Put.l0 kj1 t179 0 a0_0 l0_1 l0_2 l0_3) = some r:=H
   have A7:=aM_ A70
   clear A70
   have H':=aM_ H
   clear H
   try go_wp2
   have n0_:=aM_ (kD_ BK172.out)
   have n1_:=aM_ (bD_ HB.out)
   clear BK172 HB
   have BK172:=n0_
   have HB:=n1_
   clear n0_ n1_
   refine start_ (n:=8) (S:=fun w'=>w'.cell? ⟨gb172,0,none⟩ = some (.bool a0_0) ∧ w'.cell? ⟨gb172,1,none⟩ = some (.slice A0_1 l0_1.length c0_1) ∧ w'.cell? ⟨gb172,2,none⟩ = some (.slice A0_2 l0_2.length c0_2) ∧ w'.cell? ⟨gb172,3,none⟩ = some (.slice A0_3 l0_3.length c0_3)) (ds:=[]) (tb_ 0 8) (by kernel_rfl) rfl rfl ⟨(kC_ BK172.out 0).trans rfl,(kC_ BK172.out 1).trans rfl,(kC_ BK172.out 2).trans rfl,(kC_ BK172.out 3).trans rfl⟩ (fun hHeld=>?_);refine with_tabW spec_l14Put.tab4 spec_l14Put.bits4 (fun HT_ HW_=>?_)
   generalize wc.drew = w8 at BK172 HB hHeld ⊢
   refine pure_ (i:=1) (N:=some 11) (v:=?_) (a':=?_) #[false,true,false,false,false,false,false,false] rfl rfl (any_of HT_.out (by kernel_rfl)) (fun _ _ _ h=>h) (Or.inl ⟨by rfl,?_⟩) ?_ ?_
   rotate_left
   ·intro w'
    go_simp
    with_reducible rfl
   rotate_left
   ·simp only [Act.put,sI_,sZ_,sS_,i64_w,i32_w]
    rfl
   refine pure_ (i:=3) (N:=some 13) (v:=?_) (a':=?_) #[false,true,false,true,false,false,false,false] rfl rfl (any_of HT_.out (by kernel_rfl)) (fun _ _ _ h=>h) (Or.inl ⟨by rfl,?_⟩) ?_ ?_
   rotate_left
   ·intro w'
    go_simp
    with_reducible rfl
   rotate_left
   ·simp only [Act.put,sI_,sZ_,sS_,i64_w,i32_w]
    rfl
   refine take_ (i:=4) (N:=some 14) (v:=?_) (a':=?_) #[false,true,false,true,true,false,false,false] rfl rfl (take_ofW HT_.out HW_.out (by kernel_rfl)) (fun _ _ _ h=>h) (Or.inl ⟨by rfl,?_⟩) hHeld ?_ ?_
   rotate_left
   ·rintro w' ⟨s0,s1,s2,s3⟩
    go_simp
    with_reducible rfl
   rotate_left
   ·simp only [Act.put,sI_,sZ_,sS_,i64_w,i32_w]
    rfl
   refine pure_ (i:=5) (N:=some 15) (v:=?_) (a':=?_) #[false,true,false,true,true,true,false,false] rfl rfl (any_of HT_.out (by kernel_rfl)) (fun _ _ _ h=>h) (Or.inl ⟨by rfl,?_⟩) ?_ ?_
   rotate_left
   ·intro w'
    go_simp
    with_reducible rfl
   rotate_left
   ·simp only [Act.put,sI_,sZ_,sS_,i64_w,i32_w]
    rfl
   refine one_ (i:=0) (N:=some 10) #[true,true,false,true,true,true,false,false] rfl rfl (one_of HT_.out (by kernel_rfl)) (by decide) (fun K hK=>?_)
   refine Kd.R_lit_step (Kd.int .u8) _ 5 ?hg (N:=10) ?hd (xs:=([] : List Int)) (inner:=[]) (ok:=fun _=>True) (okp:=fun _=>True) ?hr ?hp (fun _ hk=>hk) trivial (Below.refl _ _) (Nat.le_refl _) (by simp) ?_;(case hd=>rfl);(case hg=>rfl);(case hr=>first | (go_simp;done) | (go_simp;rfl));(case hp=>exact (Reps.none _ _))
   intro v174 w9 ho10 hb hg_ hnew_
   clear hg_ hnew_
   (first | rw [← Ny173.out] at ho10 | (simp only [Int.reduceToNat] at ho10;rw [← Ny173.out] at ho10))
   have n0_:=aM_ (Kd.R_lower ho10 (bS_ (by exact bZ_ HB)))
   have n1_:=aM_ (blk_below (g:=gb172) (o:=.cells #[.bool a0_0,.slice A0_1 l0_1.length c0_1,.slice A0_2 l0_2.length c0_2,.slice A0_3 l0_3.length c0_3] 29 (0,0)) (by exact kZ_ BK172) hb)
   have n2_:=aM_ (bT_ (by exact bZ_ HB) hb)
   clear BK172 HB
   have HO175:=n0_
   have BK172:=n1_
   have HB:=n2_
   clear n0_ n1_ n2_ hb ho10
   obtain ⟨Ao11,co11,eo11⟩:=Kd.R_slice HO175.out
   (first | subst eo11 | (injection eo11 with f1_ f2_ f3_;have f4_:=f1_.symm;have f5_:=f3_.symm;clear f1_ f2_ f3_;subst f4_;subst f5_))
   refine hK.out _ _ ⟨(kC_ BK172.out 0).trans rfl,(kC_ BK172.out 1).trans rfl,(kC_ BK172.out 2).trans rfl,(kC_ BK172.out 3).trans rfl⟩ (fun hHeld=>?_)
   clear hK K
   refine norm_ (a':=?_) ?_ ?_
   rotate_left
   ·show Act.put _ (some 10) _ = _
    simp only [Act.put,sI_,sZ_,sS_,i64_w,i32_w]
    rfl
   refine one_ (i:=2) (N:=some 12) (tb_ 6 2) rfl rfl (one_of HT_.out (by kernel_rfl)) (by decide) (fun K hK=>?_)
   refine goes_ Try.func93 (by kernel_rfl) rfl #[.slice Ao11 y173.length co11,.int .i64 x3_1] (by rfl) rfl rfl (by (try simp only [mA_,mC_,mN_]);first | done | rfl | (simp only [lD_,lT_];rfl)) ?_
   with_reducible refine (spec_PutU.calls kj1 _ _ y173 x3_1 t176 _ ?side1 ?side2 A6.out).mono ?_
   (case side1=>repeat (first | exact (Kd.R_reads' HO175.out).2.2 | (with_reducible refine cA_ ?_ _) | (with_reducible refine cN_ ?_ _) | (with_reducible refine cD_ ?_)))
   (case side2=>exact (Kd.R_reads' HO175.out).2.1)
   rintro e w12 ⟨v177,rfl,ho0,hb⟩
   refine ⟨_,rfl,?_⟩
   have n0_:=aM_ (Kd.R_elder' (by exact rZ_ HO175) (Kd.R_base ho0) hb)
   have n1_:=aM_ (Kd.R_lower (Kd.R_new' ho0 (Kd.R_lt (by exact rZ_ HO175))) (bS_ (by exact bZ_ HB)))
   have n2_:=aM_ (blk_below (g:=gb172) (o:=.cells #[.bool a0_0,.slice A0_1 l0_1.length c0_1,.slice A0_2 l0_2.length c0_2,.slice A0_3 l0_3.length c0_3] 29 (0,0)) (by exact kZ_ BK172) hb)
   have n3_:=aM_ (bT_ (by exact bZ_ HB) hb)
   clear HO175 BK172 HB
   have HO175:=n0_
   have HO178:=n1_
   have BK172:=n2_
   have HB:=n3_
   clear n0_ n1_ n2_ n3_ hb
   skip
   skip
   skip
   clear ho0
   obtain ⟨Ao13,co13,eo13⟩:=Kd.R_slice HO178.out
   (first | subst eo13 | (injection eo13 with f1_ f2_ f3_;have f4_:=f1_.symm;have f5_:=f3_.symm;clear f1_ f2_ f3_;subst f4_;subst f5_))
   refine hK.out _ _ ⟨(kC_ BK172.out 0).trans rfl,(kC_ BK172.out 1).trans rfl,(kC_ BK172.out 2).trans rfl,(kC_ BK172.out 3).trans rfl⟩ (fun hHeld=>?_)
   clear hK K
   refine norm_ (a':=?_) ?_ ?_
   rotate_left
   ·show Act.put _ (some 12) _ = _
    simp only [Act.put,sI_,sZ_,sS_,i64_w,i32_w]
    rfl
   refine one_ (i:=6) (N:=some 16) (tb_ 7 1) rfl rfl (one_of HT_.out (by kernel_rfl)) (by decide) (fun K hK=>?_)
   refine goes_ Try.func93 (by kernel_rfl) rfl #[.slice Ao13 t176.length co13,.int .i64 (l0_1.length : Int)] (by rfl) rfl rfl (by (try simp only [mA_,mC_,mN_]);first | done | rfl | (simp only [lD_,lT_];rfl)) ?_
   with_reducible refine (spec_PutU.calls kj1 _ _ t176 (l0_1.length : Int) t179 _ ?side1 ?side2 A7.out).mono ?_
   (case side1=>repeat (first | exact (Kd.R_reads' HO178.out).2.2 | (with_reducible refine cA_ ?_ _) | (with_reducible refine cN_ ?_ _) | (with_reducible refine cD_ ?_)))
   (case side2=>exact (Kd.R_reads' HO178.out).2.1)
   rintro e w14 ⟨v180,rfl,ho0,hb⟩
   refine ⟨_,rfl,?_⟩
   have n0_:=aM_ (Kd.R_elder' (by exact rZ_ HO175) (Kd.R_base ho0) hb)
   have n1_:=aM_ (Kd.R_elder' (by exact rZ_ HO178) (Kd.R_base ho0) hb)
   have n2_:=aM_ (Kd.R_lower (Kd.R_new' (Kd.R_new' ho0 (Kd.R_lt (by exact rZ_ HO175))) (Kd.R_lt (by exact rZ_ HO178))) (bS_ (by exact bZ_ HB)))
   have n3_:=aM_ (blk_below (g:=gb172) (o:=.cells #[.bool a0_0,.slice A0_1 l0_1.length c0_1,.slice A0_2 l0_2.length c0_2,.slice A0_3 l0_3.length c0_3] 29 (0,0)) (by exact kZ_ BK172) hb)
   have n4_:=aM_ (bT_ (by exact bZ_ HB) hb)
   clear HO175 HO178 BK172 HB
   have HO175:=n0_
   have HO178:=n1_
   have HO181:=n2_
   have BK172:=n3_
   have HB:=n4_
   clear n0_ n1_ n2_ n3_ n4_ hb
   skip
   skip
   skip
   clear ho0
   refine hK.out _ _ ⟨(kC_ BK172.out 0).trans rfl,(kC_ BK172.out 1).trans rfl,(kC_ BK172.out 2).trans rfl,(kC_ BK172.out 3).trans rfl⟩ (fun hHeld=>?_)
   clear hK K
   refine norm_ (a':=?_) ?_ ?_
   rotate_left
   ·show Act.put _ (some 16) _ = _
    simp only [Act.put,sI_,sZ_,sS_,i64_w,i32_w]
    rfl
   refine pure_ (i:=7) (N:=some 4) (v:=?_) (a':=?_) (tb_ 8 0) rfl rfl (any_of HT_.out (by kernel_rfl)) (fun _ _ _ h=>h) (Or.inl ⟨by rfl,?_⟩) ?_ ?_
   rotate_left
   ·intro w'
    go_simp
    with_reducible rfl
   rotate_left
   ·simp only [Act.put,sI_,sZ_,sS_,i64_w,i32_w]
    rfl
   refine done_ (done_of HT_.out (by kernel_rfl)) ?_
   try go_wp2
   (try simp only [Act.put,sI_,sS_,sZ_])
   go_loopg [4,5] kj1 (fun kq v4 v5 w'=>∃ (x4_2 : List Int) (x5_2 : Int),v5 = .int .i64 x5_2 ∧ Aside0 (spec_l14Put.l0 kq x4_2 x5_2 a0_0 l0_1 l0_2 l0_3 = some r) ∧ Aside0 (kq ≤ kj1) ∧ Aside0 (Kd.R (Kd.int .u8) 5 w' w.heap.size (fun _=>True) v4 x4_2) ∧ Aside0 (w'.heap[gb172]? = some (.cells #[.bool a0_0,(.slice A0_1 l0_1.length c0_1),(.slice A0_2 l0_2.length c0_2),(.slice A0_3 l0_3.length c0_3)] 29 (0,0))) ∧ Aside0 (Below w.heap.size w w'))
   case atStart=>exact ⟨(t179),(0),(by first | rfl | (simp;done) | (simp [*];done)),H', ⟨Nat.le_refl _⟩,⟨by (with_reducible repeat (first | apply rA_ | apply rN_ | apply rD_));exact Kd.R_mono HO181.out (fun _ hk=>trivial)⟩,⟨by exact kZ_ BK172⟩,⟨by exact bZ_ HB⟩⟩
   case round =>
    clear H'
    obtain ⟨x4_2,x5_2,rfl,HA,HK2,HO_4,BK172,HB⟩:=hrel
    cases gk with
    | zero=>exact absurd HA.out (by simp [spec_l14Put.l0])
    | succ k2 =>
     have H:=HA.out
     clear HA
     simp only [spec_l14Put.l0] at H
     by_cases c15 : x5_2 < (l0_1.length : Int)
     ·rw [if_pos c15] at H
      have c15b0 : decide (x5_2 < (l0_1.length : Int)) = true:=decide_eq_true c15
      clear c15
      by_cases c16 : 0 ≤ x5_2
      ·rw [if_pos c16] at H
       have c16b0 : decide (0 ≤ x5_2) = true:=decide_eq_true c16
       clear c16
       replace H:=oB_ H
       obtain ⟨t183,A170,H⟩:=H
       replace H : (spec_l14Put.l0 k2 t183 (wrap64 (x5_2 + 1)) a0_0 l0_1 l0_2 l0_3) = some r:=H
       have A17:=aM_ A170
       clear A170
       have H':=aM_ H
       clear H
       have hcz18_0 : wr.cell? ⟨gb172,0,none⟩ = some (.bool a0_0):=(kC_ BK172.out 0).trans rfl
       have hcz18_1 : wr.cell? ⟨gb172,1,none⟩ = some (.slice A0_1 l0_1.length c0_1):=(kC_ BK172.out 1).trans rfl
       have hcz18_2 : wr.cell? ⟨gb172,2,none⟩ = some (.slice A0_2 l0_2.length c0_2):=(kC_ BK172.out 2).trans rfl
       have hcz18_3 : wr.cell? ⟨gb172,3,none⟩ = some (.slice A0_3 l0_3.length c0_3):=(kC_ BK172.out 3).trans rfl
       have hfz18_0:=kF_ BK172.out 0
       have hfz18_1:=kF_ BK172.out 1
       have hfz18_2:=kF_ BK172.out 2
       have hfz18_3:=kF_ BK172.out 3
       have p182 : 0 ≤ (x5_2 : Int):=oT_ (by first | (with_reducible assumption) | assumption)
       have q182 : x5_2 < (l0_1.length : Int):=oT_ (by first | (with_reducible assumption) | assumption)
       obtain ⟨ad182,e182,hx182_0⟩:=Kd.at_string HR0_1.out x5_2 p182 q182
       cases e182
       replace hx182_0:=(HB.out.cell (wL_ w _ hx182_0)).trans hx182_0
       replace p182:=eq_true p182
       replace q182:=eq_true q182
       obtain ⟨Ao19,co19,eo19⟩:=Kd.R_slice HO_4.out
       subst eo19
       go_wp2_with (first | ((with_reducible refine gate_callee (f:=95) rfl ?_);refine goesL_ (some 30) rfl rfl Try.func95 (by kernel_rfl) rfl #[.slice Ao19 x4_2.length co19,.string (rdOf ByteArray.empty l0_1 x5_2)] rfl (by (try simp only [mA_,mC_,mN_]);first | done | rfl | (simp only [lD_,lT_];rfl)) ?_;(with_reducible refine (spec_PutText.calls k2 _ _ x4_2 (rdOf ByteArray.empty l0_1 x5_2) t183 _ ?side1 ?side2 A17.out).mono ?_);(case side1=>repeat (first | exact (Kd.R_reads' HO_4.out).2.2 | (with_reducible refine cA_ ?_ _) | (with_reducible refine cN_ ?_ _) | (with_reducible refine cD_ ?_)));(case side2=>exact (Kd.R_reads' HO_4.out).2.1);rintro e w20 ⟨v184,rfl,ho0,hb⟩;refine ⟨_,rfl,?_⟩;have n0_:=aM_ (Kd.R_elder' (by exact rZ_ HO_4) (Kd.R_base ho0) hb);have n1_:=aM_ (Kd.R_lower (Kd.R_new' ho0 (Kd.R_lt (by exact rZ_ HO_4))) (bS_ (by exact bZ_ HB)));have n2_:=aM_ (blk_below (g:=gb172) (o:=.cells #[.bool a0_0,.slice (some ad182) l0_1.length c0_1,.slice A0_2 l0_2.length c0_2,.slice A0_3 l0_3.length c0_3] 29 (0,0)) (by exact kZ_ BK172) hb);have n3_:=aM_ (bT_ (by exact bZ_ HB) hb);clear HO_4 BK172 HB;have HO_4:=n0_;have HO185:=n1_;have BK172:=n2_;have HB:=n3_;clear n0_ n1_ n2_ n3_ hb ho0))
       go_roundg k2
       case measure=>have:=HJ1.out;have:=HK2.out;omega
       case rel=>exact ⟨(t183),(wrap64 (x5_2 + 1)),(by first | rfl | (simp;done) | (simp [*];done)),H', ⟨by have:=HJ1.out;have:=HK2.out;omega⟩,⟨by (with_reducible repeat (first | apply rA_ | apply rN_ | apply rD_));exact Kd.R_mono HO185.out (fun _ hk=>trivial)⟩,⟨by exact kZ_ BK172⟩,⟨by exact bZ_ HB⟩⟩
      ·rw [if_neg c16] at H
       exact absurd H (by simp)
     ·rw [if_neg c15] at H
      have c15b0 : decide (x5_2 < (l0_1.length : Int)) = false:=decide_eq_false c15
      clear c15
      have HC21:=aM_ H
      clear H
      have hcz22_0 : wr.cell? ⟨gb172,0,none⟩ = some (.bool a0_0):=(kC_ BK172.out 0).trans rfl
      have hcz22_1 : wr.cell? ⟨gb172,1,none⟩ = some (.slice A0_1 l0_1.length c0_1):=(kC_ BK172.out 1).trans rfl
      have hcz22_2 : wr.cell? ⟨gb172,2,none⟩ = some (.slice A0_2 l0_2.length c0_2):=(kC_ BK172.out 2).trans rfl
      have hcz22_3 : wr.cell? ⟨gb172,3,none⟩ = some (.slice A0_3 l0_3.length c0_3):=(kC_ BK172.out 3).trans rfl
      have hfz22_0:=kF_ BK172.out 0
      have hfz22_1:=kF_ BK172.out 1
      have hfz22_2:=kF_ BK172.out 2
      have hfz22_3:=kF_ BK172.out 3
      go_upto_block 2 with (fail)
      go_cut [4] (fun v4 wc=>∃ (kq : Nat) (x4_20 : List Int),Aside0 (spec_l14Put.j3 kq x4_20 a0_0 l0_1 l0_2 l0_3 = some r) ∧ Aside0 (kq ≤ k2) ∧ Aside0 (Kd.R (Kd.int .u8) 5 wc w.heap.size (fun _=>True) v4 x4_20) ∧ Aside0 (wc.heap[gb172]? = some (.cells #[.bool a0_0,(.slice A0_1 l0_1.length c0_1),(.slice A0_2 l0_2.length c0_2),(.slice A0_3 l0_3.length c0_3)] 29 (0,0))) ∧ Aside0 (Below w.heap.size w wc))
      case first =>
       have H:=HC21.out
       clear HC21
       have H':=aM_ H
       clear H
       go_wp2
       (try simp only [Act.put,sI_,sS_,sZ_])
       go_loopg [4,6] k2 (fun kq v4 v6 w'=>∃ (x4_3 : List Int) (x6_3 : Int),v6 = .int .i64 x6_3 ∧ Aside0 (spec_l14Put.l1 kq x4_3 x6_3 a0_0 l0_1 l0_2 l0_3 = some r) ∧ Aside0 (kq ≤ k2) ∧ Aside0 (Kd.R (Kd.int .u8) 5 w' w.heap.size (fun _=>True) v4 x4_3) ∧ Aside0 (w'.heap[gb172]? = some (.cells #[.bool a0_0,(.slice A0_1 l0_1.length c0_1),(.slice A0_2 l0_2.length c0_2),(.slice A0_3 l0_3.length c0_3)] 29 (0,0))) ∧ Aside0 (Below w.heap.size w w'))
       case atStart=>exact ⟨(x4_2),(0),(by first | rfl | (simp;done) | (simp [*];done)),H', ⟨Nat.le_refl _⟩,⟨by exact rZ_ HO_4⟩,⟨by exact kZ_ BK172⟩,⟨by exact bZ_ HB⟩⟩
       case round =>
        clear H'
        clear c15b0 hcz22_0 hcz22_1 hcz22_2 hcz22_3 hfz22_0 hfz22_1 hfz22_2 hfz22_3
        obtain ⟨x4_3,x6_3,rfl,HA,HK3,HO_4,BK172,HB⟩:=hrel
        cases gk with
        | zero=>exact absurd HA.out (by simp [spec_l14Put.l1])
        | succ k3 =>
         have H:=HA.out
         clear HA
         simp only [spec_l14Put.l1] at H
         by_cases c23 : x6_3 < (l0_2.length : Int)
         ·rw [if_pos c23] at H
          have c23b0 : decide (x6_3 < (l0_2.length : Int)) = true:=decide_eq_true c23
          clear c23
          (first | rw [c23b0] | (simp only [i64_w,i32_w];rw [c23b0]) | skip)
          by_cases c24 : a0_0 = true
          ·subst c24
           have H1 : (if 0 ≤ x6_3 then ((spec_PutText.f k3 x4_3 (rdOf ByteArray.empty l0_2 x6_3)).bind fun t187=>(spec_l14Put.l1 k3 t187 (wrap64 (x6_3 + 1)) true l0_1 l0_2 l0_3)) else (none)) = some r:=by rw [if_pos rfl] at H;exact H
           clear H
           have H:=H1
           clear H1
           by_cases c25 : 0 ≤ x6_3
           ·rw [if_pos c25] at H
            have c25b0 : decide (0 ≤ x6_3) = true:=decide_eq_true c25
            clear c25
            replace H:=oB_ H
            obtain ⟨t187,A260,H⟩:=H
            replace H : (spec_l14Put.l1 k3 t187 (wrap64 (x6_3 + 1)) true l0_1 l0_2 l0_3) = some r:=H
            have A26:=aM_ A260
            clear A260
            have H':=aM_ H
            clear H
            have hcz27_0 : wr.cell? ⟨gb172,0,none⟩ = some (.bool true):=(kC_ BK172.out 0).trans rfl
            have hcz27_1 : wr.cell? ⟨gb172,1,none⟩ = some (.slice A0_1 l0_1.length c0_1):=(kC_ BK172.out 1).trans rfl
            have hcz27_2 : wr.cell? ⟨gb172,2,none⟩ = some (.slice A0_2 l0_2.length c0_2):=(kC_ BK172.out 2).trans rfl
            have hcz27_3 : wr.cell? ⟨gb172,3,none⟩ = some (.slice A0_3 l0_3.length c0_3):=(kC_ BK172.out 3).trans rfl
            have hfz27_0:=kF_ BK172.out 0
            have hfz27_1:=kF_ BK172.out 1
            have hfz27_2:=kF_ BK172.out 2
            have hfz27_3:=kF_ BK172.out 3
            have p186 : 0 ≤ (x6_3 : Int):=oT_ (by first | (with_reducible assumption) | assumption)
            have q186 : x6_3 < (l0_2.length : Int):=oT_ (by first | (with_reducible assumption) | assumption)
            obtain ⟨ad186,e186,hx186_0⟩:=Kd.at_string HR0_2.out x6_3 p186 q186
            cases e186
            replace hx186_0:=(HB.out.cell (wL_ w _ hx186_0)).trans hx186_0
            replace p186:=eq_true p186
            replace q186:=eq_true q186
            obtain ⟨Ao28,co28,eo28⟩:=Kd.R_slice HO_4.out
            subst eo28
            go_wp2_with (first | ((with_reducible refine gate_callee (f:=95) rfl ?_);refine goesL_ (some 48) rfl rfl Try.func95 (by kernel_rfl) rfl #[.slice Ao28 x4_3.length co28,.string (rdOf ByteArray.empty l0_2 x6_3)] rfl (by (try simp only [mA_,mC_,mN_]);first | done | rfl | (simp only [lD_,lT_];rfl)) ?_;(with_reducible refine (spec_PutText.calls k3 _ _ x4_3 (rdOf ByteArray.empty l0_2 x6_3) t187 _ ?side1 ?side2 A26.out).mono ?_);(case side1=>repeat (first | exact (Kd.R_reads' HO_4.out).2.2 | (with_reducible refine cA_ ?_ _) | (with_reducible refine cN_ ?_ _) | (with_reducible refine cD_ ?_)));(case side2=>exact (Kd.R_reads' HO_4.out).2.1);rintro e w29 ⟨v188,rfl,ho0,hb⟩;refine ⟨_,rfl,?_⟩;have n0_:=aM_ (Kd.R_elder' (by exact rZ_ HO_4) (Kd.R_base ho0) hb);have n1_:=aM_ (Kd.R_lower (Kd.R_new' ho0 (Kd.R_lt (by exact rZ_ HO_4))) (bS_ (by exact bZ_ HB)));have n2_:=aM_ (blk_below (g:=gb172) (o:=.cells #[.bool true,.slice A0_1 l0_1.length c0_1,.slice (some ad186) l0_2.length c0_2,.slice A0_3 l0_3.length c0_3] 29 (0,0)) (by exact kZ_ BK172) hb);have n3_:=aM_ (bT_ (by exact bZ_ HB) hb);clear HO_4 BK172 HB;have HO_4:=n0_;have HO189:=n1_;have BK172:=n2_;have HB:=n3_;clear n0_ n1_ n2_ n3_ hb ho0))
            go_roundg k3
            case measure=>have:=HJ1.out;have:=HK2.out;have:=HK3.out;omega
            case rel=>exact ⟨(t187),(wrap64 (x6_3 + 1)),(by first | rfl | (simp;done) | (simp [*];done)),H', ⟨by have:=HJ1.out;have:=HK2.out;have:=HK3.out;omega⟩,⟨by (with_reducible repeat (first | apply rA_ | apply rN_ | apply rD_));exact Kd.R_mono HO189.out (fun _ hk=>trivial)⟩,⟨by exact kZ_ BK172⟩,⟨by exact bZ_ HB⟩⟩
           ·rw [if_neg c25] at H
            exact absurd H (by simp)
          ·replace c24:=Bool.eq_false_iff.mpr c24
           subst c24
           have H1 : (spec_l14Put.j3 k3 x4_3 false l0_1 l0_2 l0_3) = some r:=by rw [if_neg (show ¬ (false = true) by decide)] at H;exact H
           clear H
           have H:=H1
           clear H1
           have H':=aM_ H
           clear H
           have hcz30_0 : wr.cell? ⟨gb172,0,none⟩ = some (.bool false):=(kC_ BK172.out 0).trans rfl
           have hcz30_1 : wr.cell? ⟨gb172,1,none⟩ = some (.slice A0_1 l0_1.length c0_1):=(kC_ BK172.out 1).trans rfl
           have hcz30_2 : wr.cell? ⟨gb172,2,none⟩ = some (.slice A0_2 l0_2.length c0_2):=(kC_ BK172.out 2).trans rfl
           have hcz30_3 : wr.cell? ⟨gb172,3,none⟩ = some (.slice A0_3 l0_3.length c0_3):=(kC_ BK172.out 3).trans rfl
           have hfz30_0:=kF_ BK172.out 0
           have hfz30_1:=kF_ BK172.out 1
           have hfz30_2:=kF_ BK172.out 2
           have hfz30_3:=kF_ BK172.out 3
           go_wp2
           (first | go_meet | (refine Met.intro ?_;go_step;(repeat apply Exists.intro);refine ⟨?rel,?eq⟩;(case eq=>(try simp only [c10b0]);(try simp only [c10b0]);(try simp only [c23b0]);rfl)))
           case rel=>exact ⟨_,(x4_3),H', ⟨by have:=HJ1.out;have:=HK2.out;have:=HK3.out;first | omega | exact Nat.le_refl _⟩,⟨by exact rZ_ HO_4⟩,⟨by exact kZ_ BK172⟩,⟨by exact bZ_ HB⟩⟩
         ·rw [if_neg c23] at H
          have c23b0 : decide (x6_3 < (l0_2.length : Int)) = false:=decide_eq_false c23
          clear c23
          (first | rw [c23b0] | (simp only [i64_w,i32_w];rw [c23b0]) | skip)
          have H':=aM_ H
          clear H
          have hcz31_0 : wr.cell? ⟨gb172,0,none⟩ = some (.bool a0_0):=(kC_ BK172.out 0).trans rfl
          have hcz31_1 : wr.cell? ⟨gb172,1,none⟩ = some (.slice A0_1 l0_1.length c0_1):=(kC_ BK172.out 1).trans rfl
          have hcz31_2 : wr.cell? ⟨gb172,2,none⟩ = some (.slice A0_2 l0_2.length c0_2):=(kC_ BK172.out 2).trans rfl
          have hcz31_3 : wr.cell? ⟨gb172,3,none⟩ = some (.slice A0_3 l0_3.length c0_3):=(kC_ BK172.out 3).trans rfl
          have hfz31_0:=kF_ BK172.out 0
          have hfz31_1:=kF_ BK172.out 1
          have hfz31_2:=kF_ BK172.out 2
          have hfz31_3:=kF_ BK172.out 3
          go_wp2
          (first | go_meet | (refine Met.intro ?_;go_step;(repeat apply Exists.intro);refine ⟨?rel,?eq⟩;(case eq=>(try simp only [c10b0]);(try simp only [c23b0]);(try simp only [c23b0]);rfl)))
          case rel=>exact ⟨_,(x4_3),H', ⟨by have:=HJ1.out;have:=HK2.out;have:=HK3.out;first | omega | exact Nat.le_refl _⟩,⟨by exact rZ_ HO_4⟩,⟨by exact kZ_ BK172⟩,⟨by exact bZ_ HB⟩⟩
      case rest =>
       clear HC21 c15b0 hcz22_0 hcz22_1 hcz22_2 hcz22_3 hfz22_0 hfz22_1 hfz22_2 hfz22_3
       obtain ⟨kq,x4_20,HA,HJ20,HO_4,BK172,HB⟩:=hcut
       cases kq with
       | zero=>exact absurd HA.out (by simp [spec_l14Put.j3])
       | succ kj20 =>
        have H:=HA.out
        clear HA
        simp only [spec_l14Put.j3] at H
        have H':=aM_ H
        clear H
        go_wp2
        (try simp only [Act.put,sI_,sS_,sZ_])
        go_loopg [4,7] kj20 (fun kq v4 v7 w'=>∃ (x4_4 : List Int) (x7_4 : Int),v7 = .int .i64 x7_4 ∧ Aside0 (spec_l14Put.l2 kq x4_4 x7_4 a0_0 l0_1 l0_2 l0_3 = some r) ∧ Aside0 (kq ≤ kj20) ∧ Aside0 (Kd.R (Kd.int .u8) 5 w' w.heap.size (fun _=>True) v4 x4_4) ∧ Aside0 (w'.heap[gb172]? = some (.cells #[.bool a0_0,(.slice A0_1 l0_1.length c0_1),(.slice A0_2 l0_2.length c0_2),(.slice A0_3 l0_3.length c0_3)] 29 (0,0))) ∧ Aside0 (Below w.heap.size w w'))
        case atStart=>exact ⟨(x4_20),(0),(by first | rfl | (simp;done) | (simp [*];done)),H', ⟨Nat.le_refl _⟩,⟨by exact rZ_ HO_4⟩,⟨by exact kZ_ BK172⟩,⟨by exact bZ_ HB⟩⟩
        case round =>
         clear H'
         obtain ⟨x4_4,x7_4,rfl,HA,HK4,HO_4,BK172,HB⟩:=hrel
         cases gk with
         | zero=>exact absurd HA.out (by simp [spec_l14Put.l2])
         | succ k4 =>
          have H:=HA.out
          clear HA
          simp only [spec_l14Put.l2] at H
          by_cases c32 : x7_4 < (l0_3.length : Int)
          ·rw [if_pos c32] at H
           have c32b0 : decide (x7_4 < (l0_3.length : Int)) = true:=decide_eq_true c32
           clear c32
           by_cases c33 : a0_0 = true
           ·subst c33
            have H1 : (some x4_4) = some r:=by rw [if_pos rfl] at H;exact H
            clear H
            have H:=H1
            clear H1
            obtain rfl:=Option.some.inj H
            have hcz34_0 : wr.cell? ⟨gb172,0,none⟩ = some (.bool true):=(kC_ BK172.out 0).trans rfl
            have hcz34_1 : wr.cell? ⟨gb172,1,none⟩ = some (.slice A0_1 l0_1.length c0_1):=(kC_ BK172.out 1).trans rfl
            have hcz34_2 : wr.cell? ⟨gb172,2,none⟩ = some (.slice A0_2 l0_2.length c0_2):=(kC_ BK172.out 2).trans rfl
            have hcz34_3 : wr.cell? ⟨gb172,3,none⟩ = some (.slice A0_3 l0_3.length c0_3):=(kC_ BK172.out 3).trans rfl
            have hfz34_0:=kF_ BK172.out 0
            have hfz34_1:=kF_ BK172.out 1
            have hfz34_2:=kF_ BK172.out 2
            have hfz34_3:=kF_ BK172.out 3
            go_wp2
            go_ret
            exact ⟨_,by first | rfl | (simp [errW_none,errW_some] <;> rfl) | (simp [*, errW_none,errW_some] <;> rfl),by exact rZ_ HO_4,by exact bZ_ HB⟩
           ·replace c33:=Bool.eq_false_iff.mpr c33
            subst c33
            have H1 : (if 0 ≤ x7_4 then ((spec_PutU.f k4 x4_4 (rd l0_3 x7_4)).bind fun t191=>(spec_l14Put.l2 k4 t191 (wrap64 (x7_4 + 1)) false l0_1 l0_2 l0_3)) else (none)) = some r:=by rw [if_neg (show ¬ (false = true) by decide)] at H;exact H
            clear H
            have H:=H1
            clear H1
            by_cases c35 : 0 ≤ x7_4
            ·rw [if_pos c35] at H
             have c35b0 : decide (0 ≤ x7_4) = true:=decide_eq_true c35
             clear c35
             replace H:=oB_ H
             obtain ⟨t191,A360,H⟩:=H
             replace H : (spec_l14Put.l2 k4 t191 (wrap64 (x7_4 + 1)) false l0_1 l0_2 l0_3) = some r:=H
             have A36:=aM_ A360
             clear A360
             have H':=aM_ H
             clear H
             have hcz37_0 : wr.cell? ⟨gb172,0,none⟩ = some (.bool false):=(kC_ BK172.out 0).trans rfl
             have hcz37_1 : wr.cell? ⟨gb172,1,none⟩ = some (.slice A0_1 l0_1.length c0_1):=(kC_ BK172.out 1).trans rfl
             have hcz37_2 : wr.cell? ⟨gb172,2,none⟩ = some (.slice A0_2 l0_2.length c0_2):=(kC_ BK172.out 2).trans rfl
             have hcz37_3 : wr.cell? ⟨gb172,3,none⟩ = some (.slice A0_3 l0_3.length c0_3):=(kC_ BK172.out 3).trans rfl
             have hfz37_0:=kF_ BK172.out 0
             have hfz37_1:=kF_ BK172.out 1
             have hfz37_2:=kF_ BK172.out 2
             have hfz37_3:=kF_ BK172.out 3
             have p190 : 0 ≤ (x7_4 : Int):=oT_ (by first | (with_reducible assumption) | assumption)
             have q190 : x7_4 < (l0_3.length : Int):=oT_ (by first | (with_reducible assumption) | assumption)
             obtain ⟨ad190,e190,hx190_0⟩:=Kd.at_int HR0_3.out x7_4 p190 q190
             cases e190
             replace hx190_0:=(HB.out.cell (wL_ w _ hx190_0)).trans hx190_0
             replace p190:=eq_true p190
             replace q190:=eq_true q190
             obtain ⟨Ao38,co38,eo38⟩:=Kd.R_slice HO_4.out
             subst eo38
             go_wp2_with (first | ((with_reducible refine gate_callee (f:=93) rfl ?_);refine goesL_ (some 67) rfl rfl Try.func93 (by kernel_rfl) rfl #[.slice Ao38 x4_4.length co38,.int .i64 (rd l0_3 x7_4)] rfl (by (try simp only [mA_,mC_,mN_]);first | done | rfl | (simp only [lD_,lT_];rfl)) ?_;(with_reducible refine (spec_PutU.calls k4 _ _ x4_4 (rd l0_3 x7_4) t191 _ ?side1 ?side2 A36.out).mono ?_);(case side1=>repeat (first | exact (Kd.R_reads' HO_4.out).2.2 | (with_reducible refine cA_ ?_ _) | (with_reducible refine cN_ ?_ _) | (with_reducible refine cD_ ?_)));(case side2=>exact (Kd.R_reads' HO_4.out).2.1);rintro e w39 ⟨v192,rfl,ho0,hb⟩;refine ⟨_,rfl,?_⟩;have n0_:=aM_ (Kd.R_elder' (by exact rZ_ HO_4) (Kd.R_base ho0) hb);have n1_:=aM_ (Kd.R_lower (Kd.R_new' ho0 (Kd.R_lt (by exact rZ_ HO_4))) (bS_ (by exact bZ_ HB)));have n2_:=aM_ (blk_below (g:=gb172) (o:=.cells #[.bool false,.slice A0_1 l0_1.length c0_1,.slice A0_2 l0_2.length c0_2,.slice (some ad190) l0_3.length c0_3] 29 (0,0)) (by exact kZ_ BK172) hb);have n3_:=aM_ (bT_ (by exact bZ_ HB) hb);clear HO_4 BK172 HB;have HO_4:=n0_;have HO193:=n1_;have BK172:=n2_;have HB:=n3_;clear n0_ n1_ n2_ n3_ hb ho0))
             go_roundg k4
             case measure=>have:=HJ1.out;have:=HK2.out;have:=HJ20.out;have:=HK4.out;omega
             case rel=>exact ⟨(t191),(wrap64 (x7_4 + 1)),(by first | rfl | (simp;done) | (simp [*];done)),H', ⟨by have:=HJ1.out;have:=HK2.out;have:=HJ20.out;have:=HK4.out;omega⟩,⟨by (with_reducible repeat (first | apply rA_ | apply rN_ | apply rD_));exact Kd.R_mono HO193.out (fun _ hk=>trivial)⟩,⟨by exact kZ_ BK172⟩,⟨by exact bZ_ HB⟩⟩
            ·rw [if_neg c35] at H
             exact absurd H (by simp)
          ·rw [if_neg c32] at H
           have c32b0 : decide (x7_4 < (l0_3.length : Int)) = false:=decide_eq_false c32
           clear c32
           obtain rfl:=Option.some.inj H
           have hcz40_0 : wr.cell? ⟨gb172,0,none⟩ = some (.bool a0_0):=(kC_ BK172.out 0).trans rfl
           have hcz40_1 : wr.cell? ⟨gb172,1,none⟩ = some (.slice A0_1 l0_1.length c0_1):=(kC_ BK172.out 1).trans rfl
           have hcz40_2 : wr.cell? ⟨gb172,2,none⟩ = some (.slice A0_2 l0_2.length c0_2):=(kC_ BK172.out 2).trans rfl
           have hcz40_3 : wr.cell? ⟨gb172,3,none⟩ = some (.slice A0_3 l0_3.length c0_3):=(kC_ BK172.out 3).trans rfl
           have hfz40_0:=kF_ BK172.out 0
           have hfz40_1:=kF_ BK172.out 1
           have hfz40_2:=kF_ BK172.out 2
           have hfz40_3:=kF_ BK172.out 3
           go_wp2
           go_ret
           exact ⟨_,by first | rfl | (simp [errW_none,errW_some] <;> rfl) | (simp [*, errW_none,errW_some] <;> rfl),by exact rZ_ HO_4,by exact bZ_ HB⟩
end Go.Proofs.Ytllgmgpfdnofmaa.PFnNodes
