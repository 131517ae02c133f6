import Derived.Test.YtllgmgpfdnofmaaZNDPFnNodesx0
import Derived.Test.YtllgmgpfdnofmaaZNDPFnNodesx1
namespace Go.Proofs.Ytllgmgpfdnofmaa.PFnNodes
open Go.RowKit Go.Proofs.YtllgmgpfdnofmaaW.PrintWords Go.Proofs.YtllgmgpfdnofmaaW.PrintLast Go.Proofs.YtllgmgpfdnofmaaW.PrintMore Go.Proofs.Ytllgmgpfdnofmaa.Xtra
attribute [local go_sem] max2_int min2_int max_two min_two max_three min_three max_four min_four str_leq str_gtr str_geq setCell_drewN cell_set2 cell_set3   -- for this text's walks alone
set_option linter.unusedVariables false
set_option linter.unusedSimpArgs false
mutual
def impl_NodeOk.l0 : Nat → List ByteArray → Int → Int → Bool → List ByteArray → List ByteArray → List Int → Option (Bool)
 | 0,_,_,_,_,_,_,_=>none
 | k + 1,x10,x11,x12,x142000,x142001,x142002,x142003=>if x12 < x11 then (if 0 ≤ x12 then (if x12 < (x10.length : Int) then (if ((rdOf ByteArray.empty x10 x12).size : Int) > 48 then (some false) else (if x12 > 0 then (if 0 ≤ (wrap64 (x12 - 1)) then (if (wrap64 (x12 - 1)) < (x142001.length : Int) then (if ((Op.bytesLess ((rdOf ByteArray.empty x142001 (wrap64 (x12 - 1))).toList) ((rdOf ByteArray.empty x10 x12).toList)) = true) then (impl_NodeOk.l0 k x10 x11 (wrap64 (x12 + 1)) x142000 x142001 x142002 x142003) else (some false)) else (none)) else (none)) else (impl_NodeOk.l0 k x10 x11 (wrap64 (x12 + 1)) x142000 x142001 x142002 x142003))) else (none)) else (none)) else (if x142000 = true then (impl_NodeOk.l1 k x142002 (x142002.length : Int) 0 x142000 x142001 x142002 x142003) else (impl_NodeOk.l2 k x142003 (x142003.length : Int) 0 x142000 x142001 x142002 x142003))
def impl_NodeOk.l1 : Nat → List ByteArray → Int → Int → Bool → List ByteArray → List ByteArray → List Int → Option (Bool)
 | 0,_,_,_,_,_,_,_=>none
 | k + 1,x38,x39,x40,x142000,x142001,x142002,x142003=>if x40 < x39 then (if 0 ≤ x40 then (if x40 < (x38.length : Int) then (if ((rdOf ByteArray.empty x38 x40).size : Int) > 60 then (some false) else (impl_NodeOk.l1 k x38 x39 (wrap64 (x40 + 1)) x142000 x142001 x142002 x142003)) else (none)) else (none)) else (if (x142001.length : Int) > 0 then (if (x142002.length : Int) = (x142001.length : Int) then (if (x142003.length : Int) = 0 then ((impl_SizeOf.f k x142000 x142001 x142002 x142003).bind fun t145=>(some (decide (t145 ≤ 240)))) else (some false)) else (some false)) else (some false))
def impl_NodeOk.l2 : Nat → List Int → Int → Int → Bool → List ByteArray → List ByteArray → List Int → Option (Bool)
 | 0,_,_,_,_,_,_,_=>none
 | k + 1,x73,x74,x75,x142000,x142001,x142002,x142003=>if x75 < x74 then (if 0 ≤ x75 then (if x75 < (x73.length : Int) then ((impl_isSector.f (rd x73 x75)).bind fun t147=>(if t147 = true then (impl_NodeOk.l2 k x73 x74 (wrap64 (x75 + 1)) x142000 x142001 x142002 x142003) else (some false))) else (none)) else (none)) else (if (x142003.length : Int) > 0 then (if (x142001.length : Int) = (wrap64 ((x142003.length : Int) - 1)) then (if (x142002.length : Int) = 0 then ((impl_SizeOf.f k x142000 x142001 x142002 x142003).bind fun t148=>(some (decide (t148 ≤ 240)))) else (some false)) else (some false)) else (some false))
end
def impl_NodeOk.f (k : Nat) (a0_0 : Bool) (l0_1 : List ByteArray) (l0_2 : List ByteArray) (l0_3 : List Int) : Option (Bool):=impl_NodeOk.l0 k l0_1 (l0_1.length : Int) 0 a0_0 l0_1 l0_2 l0_3
theorem impl_NodeOk.mono_l : ∀ k,(∀ y0 y1 y2 y3 y4 y5 y6,LeO (impl_NodeOk.l0 k y0 y1 y2 y3 y4 y5 y6) (impl_NodeOk.l0 (k + 1) y0 y1 y2 y3 y4 y5 y6)) ∧ (∀ y0 y1 y2 y3 y4 y5 y6,LeO (impl_NodeOk.l1 k y0 y1 y2 y3 y4 y5 y6) (impl_NodeOk.l1 (k + 1) y0 y1 y2 y3 y4 y5 y6)) ∧ (∀ y0 y1 y2 y3 y4 y5 y6,LeO (impl_NodeOk.l2 k y0 y1 y2 y3 y4 y5 y6) (impl_NodeOk.l2 (k + 1) y0 y1 y2 y3 y4 y5 y6))
 | 0=>⟨fun _ _ _ _ _ _ _ r h=>by simp [impl_NodeOk.l0] at h,fun _ _ _ _ _ _ _ r h=>by simp [impl_NodeOk.l1] at h,fun _ _ _ _ _ _ _ r h=>by simp [impl_NodeOk.l2] at h⟩
 | k + 1=>by
  obtain ⟨ih0,ih1,ih2⟩:=impl_NodeOk.mono_l k
  refine ⟨?_,?_,?_⟩
  ·intro y0 y1 y2 y3 y4 y5 y6
   unfold impl_NodeOk.l0
   repeat' first
   | (with_reducible exact ih0 _ _ _ _ _ _ _)
   | (with_reducible exact ih1 _ _ _ _ _ _ _)
   | (with_reducible exact ih2 _ _ _ _ _ _ _)
   | (with_reducible exact impl_SizeOf.mono _ _ _ _ _)
   | (with_reducible exact LeO.refl _)
   | (with_reducible exact LeO.none _)
   | (with_reducible refine LeO.ite ?_ ?_)
   | (with_reducible refine LeO.bind ?_ (fun _=>?_))
   | exact ih0 _ _ _ _ _ _ _
   | exact ih1 _ _ _ _ _ _ _
   | exact ih2 _ _ _ _ _ _ _
   | exact impl_SizeOf.mono _ _ _ _ _
   | exact LeO.none _
   | refine LeO.ite ?_ ?_
   | refine LeO.bind ?_ (fun _=>?_)
  ·intro y0 y1 y2 y3 y4 y5 y6
   unfold impl_NodeOk.l1
   repeat' first
   | (with_reducible exact ih0 _ _ _ _ _ _ _)
   | (with_reducible exact ih1 _ _ _ _ _ _ _)
   | (with_reducible exact ih2 _ _ _ _ _ _ _)
   | (with_reducible exact impl_SizeOf.mono _ _ _ _ _)
   | (with_reducible exact LeO.refl _)
   | (with_reducible exact LeO.none _)
   | (with_reducible refine LeO.ite ?_ ?_)
   | (with_reducible refine LeO.bind ?_ (fun _=>?_))
   | exact ih0 _ _ _ _ _ _ _
   | exact ih1 _ _ _ _ _ _ _
   | exact ih2 _ _ _ _ _ _ _
   | exact impl_SizeOf.mono _ _ _ _ _
   | exact LeO.none _
   | refine LeO.ite ?_ ?_
   | refine LeO.bind ?_ (fun _=>?_)
  ·intro y0 y1 y2 y3 y4 y5 y6
   unfold impl_NodeOk.l2
   repeat' first
   | (with_reducible exact ih0 _ _ _ _ _ _ _)
   | (with_reducible exact ih1 _ _ _ _ _ _ _)
   | (with_reducible exact ih2 _ _ _ _ _ _ _)
   | (with_reducible exact impl_SizeOf.mono _ _ _ _ _)
   | (with_reducible exact LeO.refl _)
   | (with_reducible exact LeO.none _)
   | (with_reducible refine LeO.ite ?_ ?_)
   | (with_reducible refine LeO.bind ?_ (fun _=>?_))
   | exact ih0 _ _ _ _ _ _ _
   | exact ih1 _ _ _ _ _ _ _
   | exact ih2 _ _ _ _ _ _ _
   | exact impl_SizeOf.mono _ _ _ _ _
   | exact LeO.none _
   | refine LeO.ite ?_ ?_
   | refine LeO.bind ?_ (fun _=>?_)
theorem impl_NodeOk.mono : ∀ a0 a1 a2 a3 k,LeO (impl_NodeOk.f k a0 a1 a2 a3) (impl_NodeOk.f (k + 1) a0 a1 a2 a3):=by
 intro a0 a1 a2 a3 k
 obtain ⟨ih0,ih1,ih2⟩:=impl_NodeOk.mono_l k
 unfold impl_NodeOk.f
 repeat' first
   | (with_reducible exact ih0 _ _ _ _ _ _ _)
   | (with_reducible exact ih1 _ _ _ _ _ _ _)
   | (with_reducible exact ih2 _ _ _ _ _ _ _)
   | (with_reducible exact impl_SizeOf.mono _ _ _ _ _)
   | (with_reducible exact LeO.refl _)
   | (with_reducible exact LeO.none _)
   | (with_reducible refine LeO.ite ?_ ?_)
   | (with_reducible refine LeO.bind ?_ (fun _=>?_))
   | exact ih0 _ _ _ _ _ _ _
   | exact ih1 _ _ _ _ _ _ _
   | exact ih2 _ _ _ _ _ _ _
   | exact impl_SizeOf.mono _ _ _ _ _
   | exact LeO.none _
   | refine LeO.ite ?_ ?_
   | refine LeO.bind ?_ (fun _=>?_)
set_option maxHeartbeats 8000000 in
set_option maxRecDepth 100000 in
theorem impl_NodeOk.calls (k : Nat) (a0_0 : Bool) (A0_1 : Option Addr) (c0_1 : Nat) (l0_1 : List ByteArray) (A0_2 : Option Addr) (c0_2 : Nat) (l0_2 : List ByteArray) (A0_3 : Option Addr) (c0_3 : Nat) (l0_3 : List Int) (r : Bool) (w : World) (hr0_1 : Kd.C Kd.string w A0_1 l0_1.length l0_1) (hc0_1 : l0_1.length ≤ c0_1) (hr0_2 : Kd.C Kd.string w A0_2 l0_2.length l0_2) (hc0_2 : l0_2.length ≤ c0_2) (hr0_3 : Kd.C (Kd.int .i64) w A0_3 l0_3.length l0_3) (hc0_3 : l0_3.length ≤ c0_3) (h : impl_NodeOk.f k a0_0 l0_1 l0_2 l0_3 = some r) :
  Calls Try.prog 28 #[.agg #[.bool a0_0,.slice A0_1 l0_1.length c0_1,.slice A0_2 l0_2.length c0_2,.slice A0_3 l0_3.length c0_3]] w fun e w'=>e = .returned (.bool r) ∧ Below w.heap.size w w':=by
 have hu29:=Try.underlying29
 have HR0_1:=aM_ hr0_1
 have HC0_1:=aM_ hc0_1
 clear hr0_1 hc0_1
 have HR0_2:=aM_ hr0_2
 have HC0_2:=aM_ hc0_2
 clear hr0_2 hc0_2
 have HR0_3:=aM_ hr0_3
 have HC0_3:=aM_ hc0_3
 clear hr0_3 hc0_3
 have HB:=aM_ (Below.refl w.heap.size w)
 have H : (impl_NodeOk.l0 k l0_1 (l0_1.length : Int) 0 a0_0 l0_1 l0_2 l0_3) = some r:=h
 clear h
 have H':=aM_ H
 clear H
 go_enter Try.func28,Try.ntmps28
 go_wp2_with (first | ((with_reducible refine gate_dst (N:=1) rfl ?_);(try (refine gate_guard (by rfl) ?_;dsimp only));refine box_event ?hg (N:=1) ?hd (cs:=#[.bool a0_0,.slice A0_1 l0_1.length c0_1,.slice A0_2 l0_2.length c0_2,.slice A0_3 l0_3.length c0_3]) (t:=29) ?hr ?_;(case hd=>rfl);(case hg=>rfl);(case hr=>first | (go_simp;done) | (go_simp;rfl));intro gb141 hg w2 hbox hb;have n0_:=aM_ (bT_ (by exact bZ_ HB) hb);have n1_:=aM_ (hbox);have n2_:=aM_ ((by rw [hg];exact (bS_ (by exact bZ_ HB)) : w.heap.size ≤ gb141));have n3_:=aM_ ((by rw [hg];exact (bS_ (by exact bZ_ HB)) : w.heap.size ≤ gb141));clear HB;have HB:=n0_;have BK141:=n1_;have GW141:=n2_;have GE141:=n3_;clear n0_ n1_ n2_ n3_ hb hbox hg;have hcz3_0 : w2.cell? ⟨gb141,0,none⟩ = some (.bool a0_0):=(kC_ BK141.out 0).trans rfl;have hcz3_1 : w2.cell? ⟨gb141,1,none⟩ = some (.slice A0_1 l0_1.length c0_1):=(kC_ BK141.out 1).trans rfl;have hcz3_2 : w2.cell? ⟨gb141,2,none⟩ = some (.slice A0_2 l0_2.length c0_2):=(kC_ BK141.out 2).trans rfl;have hcz3_3 : w2.cell? ⟨gb141,3,none⟩ = some (.slice A0_3 l0_3.length c0_3):=(kC_ BK141.out 3).trans rfl;have hfz3_0:=kF_ BK141.out 0;have hfz3_1:=kF_ BK141.out 1;have hfz3_2:=kF_ BK141.out 2;have hfz3_3:=kF_ BK141.out 3))
 (try simp only [Act.put,sI_,sS_,sZ_])
 go_loopg [12] k (fun kq v12 w'=>∃ (x12_1 : Int),v12 = .int .i64 x12_1 ∧ Aside0 (impl_NodeOk.l0 kq l0_1 (l0_1.length : Int) x12_1 a0_0 l0_1 l0_2 l0_3 = some r) ∧ Aside0 (kq ≤ k) ∧ Aside0 (w'.heap[gb141]? = some (.cells #[.bool a0_0,(.slice A0_1 l0_1.length c0_1),(.slice A0_2 l0_2.length c0_2),(.slice A0_3 l0_3.length c0_3)] 29 (0,0))) ∧ Aside0 (Below w.heap.size w w'))
 case atStart=>exact ⟨(0),(by first | rfl | (simp;done) | (simp [*];done)),H', ⟨Nat.le_refl _⟩,⟨by exact kZ_ BK141⟩,⟨by exact bZ_ HB⟩⟩
 case round =>
  clear H'
  clear hcz3_0 hcz3_1 hcz3_2 hcz3_3 hfz3_0 hfz3_1 hfz3_2 hfz3_3
  obtain ⟨x12_1,rfl,HA,HK1,BK141,HB⟩:=hrel
  cases gk with
  | zero=>exact absurd HA.out (by simp [impl_NodeOk.l0])
  | succ k1 =>
   have H:=HA.out
   clear HA
   simp only [impl_NodeOk.l0] at H
   by_cases c4 : x12_1 < (l0_1.length : Int)
   ·rw [if_pos c4] at H
    have c4b0 : decide (x12_1 < (l0_1.length : Int)) = true:=decide_eq_true c4
    clear c4
    by_cases c5 : 0 ≤ x12_1
    ·rw [if_pos c5] at H
     have c5b0 : decide (0 ≤ x12_1) = true:=decide_eq_true c5
     clear c5
     by_cases c6 : x12_1 < (l0_1.length : Int)
     ·rw [if_pos c6] at H
      have c6b0 : decide (x12_1 < (l0_1.length : Int)) = true:=decide_eq_true c6
      clear c6
      by_cases c7 : ((rdOf ByteArray.empty l0_1 x12_1).size : Int) > 48
      ·rw [if_pos c7] at H
       have c7b0 : decide (48 < ((rdOf ByteArray.empty l0_1 x12_1).size : Int)) = true:=decide_eq_true c7
       have c7b1 : decide (48 < (rdOf ByteArray.empty l0_1 x12_1).size) = true:=decide_eq_true (by omega)
       clear c7
       obtain rfl:=Option.some.inj H
       have p142 : 0 ≤ (x12_1 : Int):=oT_ (by first | (with_reducible assumption) | assumption)
       have q142 : x12_1 < (l0_1.length : Int):=oT_ (by first | (with_reducible assumption) | assumption)
       obtain ⟨ad142,e142,hx142_0⟩:=Kd.at_string HR0_1.out x12_1 p142 q142
       cases e142
       replace hx142_0:=(HB.out.cell (wL_ w _ hx142_0)).trans hx142_0
       replace p142:=eq_true p142
       replace q142:=eq_true q142
       go_wp2
       go_ret
       exact ⟨by first | rfl | (simp [errW_none,errW_some] <;> rfl) | (simp [*, errW_none,errW_some] <;> rfl),by exact bZ_ HB⟩
      ·rw [if_neg c7] at H
       have c7b0 : decide (48 < ((rdOf ByteArray.empty l0_1 x12_1).size : Int)) = false:=decide_eq_false c7
       have c7b1 : decide (48 < (rdOf ByteArray.empty l0_1 x12_1).size) = false:=decide_eq_false (by omega)
       clear c7
       by_cases c8 : x12_1 > 0
       ·rw [if_pos c8] at H
        have c8b0 : decide (0 < x12_1) = true:=decide_eq_true c8
        clear c8
        obtain ⟨ji9,hji9⟩ : ∃ j_ : Int,(wrap64 (x12_1 - 1)) = j_:=⟨_,rfl⟩
        replace H : (if 0 ≤ (ji9) then (if (ji9) < (l0_1.length : Int) then (if ((Op.bytesLess ((rdOf ByteArray.empty l0_1 (ji9)).toList) ((rdOf ByteArray.empty l0_1 x12_1).toList)) = true) then (impl_NodeOk.l0 k1 l0_1 (l0_1.length : Int) (wrap64 (x12_1 + 1)) a0_0 l0_1 l0_2 l0_3) else (some false)) else (none)) else (none)) = some r:=by first | (rw [hji9] at H;exact H) | (simp only [hji9] at H ⊢;exact H)
        have hji9w : (IntKind.i64.wrap (x12_1 - 1)) = ji9:=(i64_w _).trans hji9
        by_cases c10 : 0 ≤ (ji9)
        ·rw [if_pos c10] at H
         have c10b0 : decide (0 ≤ (ji9)) = true:=decide_eq_true c10
         clear c10
         by_cases c11 : (ji9) < (l0_1.length : Int)
         ·rw [if_pos c11] at H
          have c11b0 : decide ((ji9) < (l0_1.length : Int)) = true:=decide_eq_true c11
          clear c11
          by_cases c12 : ((Op.bytesLess ((rdOf ByteArray.empty l0_1 (ji9)).toList) ((rdOf ByteArray.empty l0_1 x12_1).toList)) = true)
          ·rw [if_pos c12] at H
           have c12b0 : (Op.bytesLess ((rdOf ByteArray.empty l0_1 (ji9)).toList) ((rdOf ByteArray.empty l0_1 x12_1).toList)) = true:=c12
           clear c12
           have H':=aM_ H
           clear H
           have p142 : 0 ≤ (x12_1 : Int):=oT_ (by first | (with_reducible assumption) | assumption)
           have q142 : x12_1 < (l0_1.length : Int):=oT_ (by first | (with_reducible assumption) | assumption)
           obtain ⟨ad142,e142,hx142_0⟩:=Kd.at_string HR0_1.out x12_1 p142 q142
           cases e142
           replace hx142_0:=(HB.out.cell (wL_ w _ hx142_0)).trans hx142_0
           replace p142:=eq_true p142
           replace q142:=eq_true q142
           have hcz13_0 : wr.cell? ⟨gb141,0,none⟩ = some (.bool a0_0):=(kC_ BK141.out 0).trans rfl
           have hcz13_1 : wr.cell? ⟨gb141,1,none⟩ = some (.slice (some ad142) l0_1.length c0_1):=(kC_ BK141.out 1).trans rfl
           have hcz13_2 : wr.cell? ⟨gb141,2,none⟩ = some (.slice A0_2 l0_2.length c0_2):=(kC_ BK141.out 2).trans rfl
           have hcz13_3 : wr.cell? ⟨gb141,3,none⟩ = some (.slice A0_3 l0_3.length c0_3):=(kC_ BK141.out 3).trans rfl
           have hfz13_0:=kF_ BK141.out 0
           have hfz13_1:=kF_ BK141.out 1
           have hfz13_2:=kF_ BK141.out 2
           have hfz13_3:=kF_ BK141.out 3
           have p143 : 0 ≤ ((ji9) : Int):=oT_ (by first | (with_reducible assumption) | assumption)
           have q143 : (ji9) < (l0_1.length : Int):=oT_ (by first | (with_reducible assumption) | assumption)
           obtain ⟨ad143,e143,hx143_0⟩:=Kd.at_string HR0_1.out (ji9) p143 q143
           obtain rfl : ad142 = ad143:=(by injection e143)
           replace hx143_0:=(HB.out.cell (wL_ w _ hx143_0)).trans hx143_0
           replace p143:=eq_true p143
           replace q143:=eq_true q143
           go_wp2
           go_roundg k1
           case measure=>have:=HK1.out;omega
           case rel=>exact ⟨(wrap64 (x12_1 + 1)),(by first | rfl | (simp;done) | (simp [*];done)),H', ⟨by have:=HK1.out;omega⟩,⟨by exact kZ_ BK141⟩,⟨by exact bZ_ HB⟩⟩
          ·rw [if_neg c12] at H
           have c12b0 : (Op.bytesLess ((rdOf ByteArray.empty l0_1 (ji9)).toList) ((rdOf ByteArray.empty l0_1 x12_1).toList)) = false:=by simpa using c12
           clear c12
           obtain rfl:=Option.some.inj H
           have p142 : 0 ≤ (x12_1 : Int):=oT_ (by first | (with_reducible assumption) | assumption)
           have q142 : x12_1 < (l0_1.length : Int):=oT_ (by first | (with_reducible assumption) | assumption)
           obtain ⟨ad142,e142,hx142_0⟩:=Kd.at_string HR0_1.out x12_1 p142 q142
           cases e142
           replace hx142_0:=(HB.out.cell (wL_ w _ hx142_0)).trans hx142_0
           replace p142:=eq_true p142
           replace q142:=eq_true q142
           have hcz14_0 : wr.cell? ⟨gb141,0,none⟩ = some (.bool a0_0):=(kC_ BK141.out 0).trans rfl
           have hcz14_1 : wr.cell? ⟨gb141,1,none⟩ = some (.slice (some ad142) l0_1.length c0_1):=(kC_ BK141.out 1).trans rfl
           have hcz14_2 : wr.cell? ⟨gb141,2,none⟩ = some (.slice A0_2 l0_2.length c0_2):=(kC_ BK141.out 2).trans rfl
           have hcz14_3 : wr.cell? ⟨gb141,3,none⟩ = some (.slice A0_3 l0_3.length c0_3):=(kC_ BK141.out 3).trans rfl
           have hfz14_0:=kF_ BK141.out 0
           have hfz14_1:=kF_ BK141.out 1
           have hfz14_2:=kF_ BK141.out 2
           have hfz14_3:=kF_ BK141.out 3
           have p143 : 0 ≤ ((ji9) : Int):=oT_ (by first | (with_reducible assumption) | assumption)
           have q143 : (ji9) < (l0_1.length : Int):=oT_ (by first | (with_reducible assumption) | assumption)
           obtain ⟨ad143,e143,hx143_0⟩:=Kd.at_string HR0_1.out (ji9) p143 q143
           obtain rfl : ad142 = ad143:=(by injection e143)
           replace hx143_0:=(HB.out.cell (wL_ w _ hx143_0)).trans hx143_0
           replace p143:=eq_true p143
           replace q143:=eq_true q143
           go_wp2
           go_ret
           exact ⟨by first | rfl | (simp [errW_none,errW_some] <;> rfl) | (simp only [← hji9];first | rfl | (simp [errW_none,errW_some] <;> rfl)) | (simp [*, errW_none,errW_some] <;> rfl),by exact bZ_ HB⟩
         ·rw [if_neg c11] at H
          exact absurd H (by simp)
        ·rw [if_neg c10] at H
         exact absurd H (by simp)
       ·rw [if_neg c8] at H
        have c8b0 : decide (0 < x12_1) = false:=decide_eq_false c8
        clear c8
        have H':=aM_ H
        clear H
        have p142 : 0 ≤ (x12_1 : Int):=oT_ (by first | (with_reducible assumption) | assumption)
        have q142 : x12_1 < (l0_1.length : Int):=oT_ (by first | (with_reducible assumption) | assumption)
        obtain ⟨ad142,e142,hx142_0⟩:=Kd.at_string HR0_1.out x12_1 p142 q142
        cases e142
        replace hx142_0:=(HB.out.cell (wL_ w _ hx142_0)).trans hx142_0
        replace p142:=eq_true p142
        replace q142:=eq_true q142
        go_wp2
        go_roundg k1
        case measure=>have:=HK1.out;omega
        case rel=>exact ⟨(wrap64 (x12_1 + 1)),(by first | rfl | (simp;done) | (simp [*];done)),H', ⟨by have:=HK1.out;omega⟩,⟨by exact kZ_ BK141⟩,⟨by exact bZ_ HB⟩⟩
     ·rw [if_neg c6] at H
      exact absurd H (by simp)
    ·rw [if_neg c5] at H
     exact absurd H (by simp)
   ·rw [if_neg c4] at H
    have c4b0 : decide (x12_1 < (l0_1.length : Int)) = false:=decide_eq_false c4
    clear c4
    by_cases c15 : a0_0 = true
    ·subst c15
     have H1 : (impl_NodeOk.l1 k1 l0_2 (l0_2.length : Int) 0 true l0_1 l0_2 l0_3) = some r:=by rw [if_pos rfl] at H;exact H
     clear H
     have H:=H1
     clear H1
     have H':=aM_ H
     clear H
     have hcz16_0 : wr.cell? ⟨gb141,0,none⟩ = some (.bool true):=(kC_ BK141.out 0).trans rfl
     have hcz16_1 : wr.cell? ⟨gb141,1,none⟩ = some (.slice A0_1 l0_1.length c0_1):=(kC_ BK141.out 1).trans rfl
     have hcz16_2 : wr.cell? ⟨gb141,2,none⟩ = some (.slice A0_2 l0_2.length c0_2):=(kC_ BK141.out 2).trans rfl
     have hcz16_3 : wr.cell? ⟨gb141,3,none⟩ = some (.slice A0_3 l0_3.length c0_3):=(kC_ BK141.out 3).trans rfl
     have hfz16_0:=kF_ BK141.out 0
     have hfz16_1:=kF_ BK141.out 1
     have hfz16_2:=kF_ BK141.out 2
     have hfz16_3:=kF_ BK141.out 3
     go_wp2
     (try simp only [Act.put,sI_,sS_,sZ_])
     go_loopg [40] k1 (fun kq v40 w'=>∃ (x40_2 : Int),v40 = .int .i64 x40_2 ∧ Aside0 (impl_NodeOk.l1 kq l0_2 (l0_2.length : Int) x40_2 true l0_1 l0_2 l0_3 = some r) ∧ Aside0 (kq ≤ k1) ∧ Aside0 (w'.heap[gb141]? = some (.cells #[.bool true,(.slice A0_1 l0_1.length c0_1),(.slice A0_2 l0_2.length c0_2),(.slice A0_3 l0_3.length c0_3)] 29 (0,0))) ∧ Aside0 (Below w.heap.size w w'))
     case atStart=>exact ⟨(0),(by first | rfl | (simp;done) | (simp [*];done)),H', ⟨Nat.le_refl _⟩,⟨by exact kZ_ BK141⟩,⟨by exact bZ_ HB⟩⟩
     case round =>
      clear H'
      clear c4b0 hcz16_0 hcz16_1 hcz16_2 hcz16_3 hfz16_0 hfz16_1 hfz16_2 hfz16_3
      obtain ⟨x40_2,rfl,HA,HK2,BK141,HB⟩:=hrel
      cases gk with
      | zero=>exact absurd HA.out (by simp [impl_NodeOk.l1])
      | succ k2 =>
       have H:=HA.out
       clear HA
       simp only [impl_NodeOk.l1] at H
       by_cases c17 : x40_2 < (l0_2.length : Int)
       ·rw [if_pos c17] at H
        have c17b0 : decide (x40_2 < (l0_2.length : Int)) = true:=decide_eq_true c17
        clear c17
        by_cases c18 : 0 ≤ x40_2
        ·rw [if_pos c18] at H
         have c18b0 : decide (0 ≤ x40_2) = true:=decide_eq_true c18
         clear c18
         by_cases c19 : x40_2 < (l0_2.length : Int)
         ·rw [if_pos c19] at H
          have c19b0 : decide (x40_2 < (l0_2.length : Int)) = true:=decide_eq_true c19
          clear c19
          by_cases c20 : ((rdOf ByteArray.empty l0_2 x40_2).size : Int) > 60
          ·rw [if_pos c20] at H
           have c20b0 : decide (60 < ((rdOf ByteArray.empty l0_2 x40_2).size : Int)) = true:=decide_eq_true c20
           have c20b1 : decide (60 < (rdOf ByteArray.empty l0_2 x40_2).size) = true:=decide_eq_true (by omega)
           clear c20
           obtain rfl:=Option.some.inj H
           have p144 : 0 ≤ (x40_2 : Int):=oT_ (by first | (with_reducible assumption) | assumption)
           have q144 : x40_2 < (l0_2.length : Int):=oT_ (by first | (with_reducible assumption) | assumption)
           obtain ⟨ad144,e144,hx144_0⟩:=Kd.at_string HR0_2.out x40_2 p144 q144
           cases e144
           replace hx144_0:=(HB.out.cell (wL_ w _ hx144_0)).trans hx144_0
           replace p144:=eq_true p144
           replace q144:=eq_true q144
           go_wp2
           go_ret
           exact ⟨by first | rfl | (simp [errW_none,errW_some] <;> rfl) | (simp [*, errW_none,errW_some] <;> rfl),by exact bZ_ HB⟩
          ·rw [if_neg c20] at H
           have c20b0 : decide (60 < ((rdOf ByteArray.empty l0_2 x40_2).size : Int)) = false:=decide_eq_false c20
           have c20b1 : decide (60 < (rdOf ByteArray.empty l0_2 x40_2).size) = false:=decide_eq_false (by omega)
           clear c20
           have H':=aM_ H
           clear H
           have p144 : 0 ≤ (x40_2 : Int):=oT_ (by first | (with_reducible assumption) | assumption)
           have q144 : x40_2 < (l0_2.length : Int):=oT_ (by first | (with_reducible assumption) | assumption)
           obtain ⟨ad144,e144,hx144_0⟩:=Kd.at_string HR0_2.out x40_2 p144 q144
           cases e144
           replace hx144_0:=(HB.out.cell (wL_ w _ hx144_0)).trans hx144_0
           replace p144:=eq_true p144
           replace q144:=eq_true q144
           go_wp2
           go_roundg k2
           case measure=>have:=HK1.out;have:=HK2.out;omega
           case rel=>exact ⟨(wrap64 (x40_2 + 1)),(by first | rfl | (simp;done) | (simp [*];done)),H', ⟨by have:=HK1.out;have:=HK2.out;omega⟩,⟨by exact kZ_ BK141⟩,⟨by exact bZ_ HB⟩⟩
         ·rw [if_neg c19] at H
          exact absurd H (by simp)
        ·rw [if_neg c18] at H
         exact absurd H (by simp)
       ·rw [if_neg c17] at H
        have c17b0 : decide (x40_2 < (l0_2.length : Int)) = false:=decide_eq_false c17
        clear c17
        by_cases c21 : (l0_1.length : Int) > 0
        ·rw [if_pos c21] at H
         have c21b0 : decide (0 < (l0_1.length : Int)) = true:=decide_eq_true c21
         have c21b1 : decide (0 < l0_1.length) = true:=decide_eq_true (by omega)
         clear c21
         by_cases c22 : (l0_2.length : Int) = (l0_1.length : Int)
         ·rw [if_pos c22] at H
          have c22b0 : ((l0_2.length : Int) == (l0_1.length : Int)) = true:=beq_iff_eq.mpr c22
          have c22b1 : ((l0_2.length : Int) != (l0_1.length : Int)) = false:=bne_eq_false_iff_eq.mpr c22
          have c22b2 : (l0_2.length == l0_1.length) = true:=by first | simpa using c22 | (simp at c22 ⊢;omega)
          clear c22
          by_cases c23 : (l0_3.length : Int) = 0
          ·rw [if_pos c23] at H
           have c23b0 : ((l0_3.length : Int) == 0) = true:=beq_iff_eq.mpr c23
           have c23b1 : ((l0_3.length : Int) != 0) = false:=bne_eq_false_iff_eq.mpr c23
           clear c23
           replace H:=oB_ H
           obtain ⟨t145,A240,H⟩:=H
           replace H : (some (decide (t145 ≤ 240))) = some r:=H
           have A24:=aM_ A240
           clear A240
           obtain rfl:=Option.some.inj H
           have hcz25_0 : wr.cell? ⟨gb141,0,none⟩ = some (.bool true):=(kC_ BK141.out 0).trans rfl
           have hcz25_1 : wr.cell? ⟨gb141,1,none⟩ = some (.slice A0_1 l0_1.length c0_1):=(kC_ BK141.out 1).trans rfl
           have hcz25_2 : wr.cell? ⟨gb141,2,none⟩ = some (.slice A0_2 l0_2.length c0_2):=(kC_ BK141.out 2).trans rfl
           have hcz25_3 : wr.cell? ⟨gb141,3,none⟩ = some (.slice A0_3 l0_3.length c0_3):=(kC_ BK141.out 3).trans rfl
           have hfz25_0:=kF_ BK141.out 0
           have hfz25_1:=kF_ BK141.out 1
           have hfz25_2:=kF_ BK141.out 2
           have hfz25_3:=kF_ BK141.out 3
           go_wp2_with (first | (go_at_call 30;(with_reducible refine (impl_SizeOf.calls k2 true _ _ l0_1 _ _ l0_2 _ _ l0_3 t145 _ ?side1 ?side2 ?side3 ?side4 ?side5 ?side6 A24.out).mono ?_);(case side1=>repeat (first | exact (Kd.C_below HR0_1.out HB.out) | (with_reducible refine cA_ ?_ _) | (with_reducible refine cN_ ?_ _) | (with_reducible refine cD_ ?_)));(case side2=>exact HC0_1.out);(case side3=>repeat (first | exact (Kd.C_below HR0_2.out HB.out) | (with_reducible refine cA_ ?_ _) | (with_reducible refine cN_ ?_ _) | (with_reducible refine cD_ ?_)));(case side4=>exact HC0_2.out);(case side5=>repeat (first | exact (Kd.C_below HR0_3.out HB.out) | (with_reducible refine cA_ ?_ _) | (with_reducible refine cN_ ?_ _) | (with_reducible refine cD_ ?_)));(case side6=>exact HC0_3.out);rintro e w26 ⟨rfl,hb⟩;have n0_:=aM_ (blk_below (g:=gb141) (o:=.cells #[.bool true,.slice A0_1 l0_1.length c0_1,.slice A0_2 l0_2.length c0_2,.slice A0_3 l0_3.length c0_3] 29 (0,0)) (by exact kZ_ BK141) hb);have n1_:=aM_ (bT_ (by exact bZ_ HB) hb);clear BK141 HB;have BK141:=n0_;have HB:=n1_;clear n0_ n1_ hb))
           go_ret
           exact ⟨by first | rfl | (simp [errW_none,errW_some] <;> rfl) | (simp [*, errW_none,errW_some] <;> rfl),by exact bZ_ HB⟩
          ·rw [if_neg c23] at H
           have c23b0 : ((l0_3.length : Int) == 0) = false:=beq_eq_false_iff_ne.mpr c23
           have c23b1 : ((l0_3.length : Int) != 0) = true:=bne_iff_ne.mpr c23
           have c23b2 : ¬ (l0_3 = []):=fun h_=>c23 (by rw [h_];rfl)
           obtain rfl:=Option.some.inj H
           have hcz27_0 : wr.cell? ⟨gb141,0,none⟩ = some (.bool true):=(kC_ BK141.out 0).trans rfl
           have hcz27_1 : wr.cell? ⟨gb141,1,none⟩ = some (.slice A0_1 l0_1.length c0_1):=(kC_ BK141.out 1).trans rfl
           have hcz27_2 : wr.cell? ⟨gb141,2,none⟩ = some (.slice A0_2 l0_2.length c0_2):=(kC_ BK141.out 2).trans rfl
           have hcz27_3 : wr.cell? ⟨gb141,3,none⟩ = some (.slice A0_3 l0_3.length c0_3):=(kC_ BK141.out 3).trans rfl
           have hfz27_0:=kF_ BK141.out 0
           have hfz27_1:=kF_ BK141.out 1
           have hfz27_2:=kF_ BK141.out 2
           have hfz27_3:=kF_ BK141.out 3
           go_wp2
           go_ret
           exact ⟨by first | rfl | (simp [errW_none,errW_some] <;> rfl) | (simp [*, errW_none,errW_some] <;> rfl),by exact bZ_ HB⟩
         ·rw [if_neg c22] at H
          have c22b0 : ((l0_2.length : Int) == (l0_1.length : Int)) = false:=beq_eq_false_iff_ne.mpr c22
          have c22b1 : ((l0_2.length : Int) != (l0_1.length : Int)) = true:=bne_iff_ne.mpr c22
          have c22b2 : (l0_2.length == l0_1.length) = false:=by first | simpa using c22 | (simp at c22 ⊢;omega)
          obtain rfl:=Option.some.inj H
          have hcz28_0 : wr.cell? ⟨gb141,0,none⟩ = some (.bool true):=(kC_ BK141.out 0).trans rfl
          have hcz28_1 : wr.cell? ⟨gb141,1,none⟩ = some (.slice A0_1 l0_1.length c0_1):=(kC_ BK141.out 1).trans rfl
          have hcz28_2 : wr.cell? ⟨gb141,2,none⟩ = some (.slice A0_2 l0_2.length c0_2):=(kC_ BK141.out 2).trans rfl
          have hcz28_3 : wr.cell? ⟨gb141,3,none⟩ = some (.slice A0_3 l0_3.length c0_3):=(kC_ BK141.out 3).trans rfl
          have hfz28_0:=kF_ BK141.out 0
          have hfz28_1:=kF_ BK141.out 1
          have hfz28_2:=kF_ BK141.out 2
          have hfz28_3:=kF_ BK141.out 3
          go_wp2
          go_ret
          exact ⟨by first | rfl | (simp [errW_none,errW_some] <;> rfl) | (simp [*, errW_none,errW_some] <;> rfl),by exact bZ_ HB⟩
        ·rw [if_neg c21] at H
         have c21b0 : decide (0 < (l0_1.length : Int)) = false:=decide_eq_false c21
         have c21b1 : decide (0 < l0_1.length) = false:=decide_eq_false (by omega)
         clear c21
         obtain rfl:=Option.some.inj H
         have hcz29_0 : wr.cell? ⟨gb141,0,none⟩ = some (.bool true):=(kC_ BK141.out 0).trans rfl
         have hcz29_1 : wr.cell? ⟨gb141,1,none⟩ = some (.slice A0_1 l0_1.length c0_1):=(kC_ BK141.out 1).trans rfl
         have hcz29_2 : wr.cell? ⟨gb141,2,none⟩ = some (.slice A0_2 l0_2.length c0_2):=(kC_ BK141.out 2).trans rfl
         have hcz29_3 : wr.cell? ⟨gb141,3,none⟩ = some (.slice A0_3 l0_3.length c0_3):=(kC_ BK141.out 3).trans rfl
         have hfz29_0:=kF_ BK141.out 0
         have hfz29_1:=kF_ BK141.out 1
         have hfz29_2:=kF_ BK141.out 2
         have hfz29_3:=kF_ BK141.out 3
         go_wp2
         go_ret
         exact ⟨by first | rfl | (simp [errW_none,errW_some] <;> rfl) | (simp [*, errW_none,errW_some] <;> rfl),by exact bZ_ HB⟩
    ·replace c15:=Bool.eq_false_iff.mpr c15
     subst c15
     have H1 : (impl_NodeOk.l2 k1 l0_3 (l0_3.length : Int) 0 false l0_1 l0_2 l0_3) = some r:=by rw [if_neg (show ¬ (false = true) by decide)] at H;exact H
     clear H
     have H:=H1
     clear H1
     have H':=aM_ H
     clear H
     have hcz30_0 : wr.cell? ⟨gb141,0,none⟩ = some (.bool false):=(kC_ BK141.out 0).trans rfl
     have hcz30_1 : wr.cell? ⟨gb141,1,none⟩ = some (.slice A0_1 l0_1.length c0_1):=(kC_ BK141.out 1).trans rfl
     have hcz30_2 : wr.cell? ⟨gb141,2,none⟩ = some (.slice A0_2 l0_2.length c0_2):=(kC_ BK141.out 2).trans rfl
     have hcz30_3 : wr.cell? ⟨gb141,3,none⟩ = some (.slice A0_3 l0_3.length c0_3):=(kC_ BK141.out 3).trans rfl
     have hfz30_0:=kF_ BK141.out 0
     have hfz30_1:=kF_ BK141.out 1
     have hfz30_2:=kF_ BK141.out 2
     have hfz30_3:=kF_ BK141.out 3
     go_wp2
     (try simp only [Act.put,sI_,sS_,sZ_])
     go_loopg [75] k1 (fun kq v75 w'=>∃ (x75_2 : Int),v75 = .int .i64 x75_2 ∧ Aside0 (impl_NodeOk.l2 kq l0_3 (l0_3.length : Int) x75_2 false l0_1 l0_2 l0_3 = some r) ∧ Aside0 (kq ≤ k1) ∧ Aside0 (w'.heap[gb141]? = some (.cells #[.bool false,(.slice A0_1 l0_1.length c0_1),(.slice A0_2 l0_2.length c0_2),(.slice A0_3 l0_3.length c0_3)] 29 (0,0))) ∧ Aside0 (Below w.heap.size w w'))
     case atStart=>exact ⟨(0),(by first | rfl | (simp;done) | (simp [*];done)),H', ⟨Nat.le_refl _⟩,⟨by exact kZ_ BK141⟩,⟨by exact bZ_ HB⟩⟩
     case round =>
      clear H'
      clear c4b0 hcz30_0 hcz30_1 hcz30_2 hcz30_3 hfz30_0 hfz30_1 hfz30_2 hfz30_3
      obtain ⟨x75_2,rfl,HA,HK2,BK141,HB⟩:=hrel
      cases gk with
      | zero=>exact absurd HA.out (by simp [impl_NodeOk.l2])
      | succ k2 =>
       have H:=HA.out
       clear HA
       simp only [impl_NodeOk.l2] at H
       by_cases c31 : x75_2 < (l0_3.length : Int)
       ·rw [if_pos c31] at H
        have c31b0 : decide (x75_2 < (l0_3.length : Int)) = true:=decide_eq_true c31
        clear c31
        by_cases c32 : 0 ≤ x75_2
        ·rw [if_pos c32] at H
         have c32b0 : decide (0 ≤ x75_2) = true:=decide_eq_true c32
         clear c32
         by_cases c33 : x75_2 < (l0_3.length : Int)
         ·rw [if_pos c33] at H
          have c33b0 : decide (x75_2 < (l0_3.length : Int)) = true:=decide_eq_true c33
          clear c33
          replace H:=oB_ H
          obtain ⟨t147,A340,H⟩:=H
          replace H : (if t147 = true then (impl_NodeOk.l2 k2 l0_3 (l0_3.length : Int) (wrap64 (x75_2 + 1)) false l0_1 l0_2 l0_3) else (some false)) = some r:=H
          have A34:=aM_ A340
          clear A340
          by_cases c35 : t147 = true
          ·subst c35
           have H1 : (impl_NodeOk.l2 k2 l0_3 (l0_3.length : Int) (wrap64 (x75_2 + 1)) false l0_1 l0_2 l0_3) = some r:=by rw [if_pos rfl] at H;exact H
           clear H
           have H:=H1
           clear H1
           have H':=aM_ H
           clear H
           have p146 : 0 ≤ (x75_2 : Int):=oT_ (by first | (with_reducible assumption) | assumption)
           have q146 : x75_2 < (l0_3.length : Int):=oT_ (by first | (with_reducible assumption) | assumption)
           obtain ⟨ad146,e146,hx146_0⟩:=Kd.at_int HR0_3.out x75_2 p146 q146
           cases e146
           replace hx146_0:=(HB.out.cell (wL_ w _ hx146_0)).trans hx146_0
           replace p146:=eq_true p146
           replace q146:=eq_true q146
           go_wp2_with (first | ((with_reducible refine gate_callee (f:=87) rfl ?_);refine goesL_ (some 80) rfl rfl Try.func87 (by kernel_rfl) rfl #[.int .i64 (rd l0_3 x75_2)] rfl (by (try simp only [mA_,mC_,mN_]);first | done | rfl | (simp only [lD_,lT_];rfl)) ?_;(with_reducible refine (impl_isSector.calls (rd l0_3 x75_2) true _ A34.out).mono ?_);rintro e w' ⟨rfl,⟨nd,rfl⟩⟩;refine ⟨_,rfl,?_⟩))
           go_roundg k2
           case measure=>have:=HK1.out;have:=HK2.out;omega
           case rel=>exact ⟨(wrap64 (x75_2 + 1)),(by first | rfl | (simp;done) | (simp [*];done)),H', ⟨by have:=HK1.out;have:=HK2.out;omega⟩,⟨by exact kZ_ BK141⟩,⟨by exact bZ_ HB⟩⟩
          ·replace c35:=Bool.eq_false_iff.mpr c35
           subst c35
           have H1 : (some false) = some r:=by rw [if_neg (show ¬ (false = true) by decide)] at H;exact H
           clear H
           have H:=H1
           clear H1
           obtain rfl:=Option.some.inj H
           have p146 : 0 ≤ (x75_2 : Int):=oT_ (by first | (with_reducible assumption) | assumption)
           have q146 : x75_2 < (l0_3.length : Int):=oT_ (by first | (with_reducible assumption) | assumption)
           obtain ⟨ad146,e146,hx146_0⟩:=Kd.at_int HR0_3.out x75_2 p146 q146
           cases e146
           replace hx146_0:=(HB.out.cell (wL_ w _ hx146_0)).trans hx146_0
           replace p146:=eq_true p146
           replace q146:=eq_true q146
           go_wp2_with (first | ((with_reducible refine gate_callee (f:=87) rfl ?_);refine goesL_ (some 80) rfl rfl Try.func87 (by kernel_rfl) rfl #[.int .i64 (rd l0_3 x75_2)] rfl (by (try simp only [mA_,mC_,mN_]);first | done | rfl | (simp only [lD_,lT_];rfl)) ?_;(with_reducible refine (impl_isSector.calls (rd l0_3 x75_2) false _ A34.out).mono ?_);rintro e w' ⟨rfl,⟨nd,rfl⟩⟩;refine ⟨_,rfl,?_⟩))
           go_ret
           exact ⟨by first | rfl | (simp [errW_none,errW_some] <;> rfl) | (simp [*, errW_none,errW_some] <;> rfl),by exact bZ_ HB⟩
         ·rw [if_neg c33] at H
          exact absurd H (by simp)
        ·rw [if_neg c32] at H
         exact absurd H (by simp)
       ·rw [if_neg c31] at H
        have c31b0 : decide (x75_2 < (l0_3.length : Int)) = false:=decide_eq_false c31
        clear c31
        by_cases c36 : (l0_3.length : Int) > 0
        ·rw [if_pos c36] at H
         have c36b0 : decide (0 < (l0_3.length : Int)) = true:=decide_eq_true c36
         have c36b1 : decide (0 < l0_3.length) = true:=decide_eq_true (by omega)
         clear c36
         by_cases c37 : (l0_1.length : Int) = (wrap64 ((l0_3.length : Int) - 1))
         ·rw [if_pos c37] at H
          have c37b0 : ((l0_1.length : Int) == (wrap64 ((l0_3.length : Int) - 1))) = true:=beq_iff_eq.mpr c37
          have c37b1 : ((l0_1.length : Int) != (wrap64 ((l0_3.length : Int) - 1))) = false:=bne_eq_false_iff_eq.mpr c37
          clear c37
          by_cases c38 : (l0_2.length : Int) = 0
          ·rw [if_pos c38] at H
           have c38b0 : ((l0_2.length : Int) == 0) = true:=beq_iff_eq.mpr c38
           have c38b1 : ((l0_2.length : Int) != 0) = false:=bne_eq_false_iff_eq.mpr c38
           clear c38
           replace H:=oB_ H
           obtain ⟨t148,A390,H⟩:=H
           replace H : (some (decide (t148 ≤ 240))) = some r:=H
           have A39:=aM_ A390
           clear A390
           obtain rfl:=Option.some.inj H
           have hcz40_0 : wr.cell? ⟨gb141,0,none⟩ = some (.bool false):=(kC_ BK141.out 0).trans rfl
           have hcz40_1 : wr.cell? ⟨gb141,1,none⟩ = some (.slice A0_1 l0_1.length c0_1):=(kC_ BK141.out 1).trans rfl
           have hcz40_2 : wr.cell? ⟨gb141,2,none⟩ = some (.slice A0_2 l0_2.length c0_2):=(kC_ BK141.out 2).trans rfl
           have hcz40_3 : wr.cell? ⟨gb141,3,none⟩ = some (.slice A0_3 l0_3.length c0_3):=(kC_ BK141.out 3).trans rfl
           have hfz40_0:=kF_ BK141.out 0
           have hfz40_1:=kF_ BK141.out 1
           have hfz40_2:=kF_ BK141.out 2
           have hfz40_3:=kF_ BK141.out 3
           go_wp2_with (first | (go_at_call 30;(with_reducible refine (impl_SizeOf.calls k2 false _ _ l0_1 _ _ l0_2 _ _ l0_3 t148 _ ?side1 ?side2 ?side3 ?side4 ?side5 ?side6 A39.out).mono ?_);(case side1=>repeat (first | exact (Kd.C_below HR0_1.out HB.out) | (with_reducible refine cA_ ?_ _) | (with_reducible refine cN_ ?_ _) | (with_reducible refine cD_ ?_)));(case side2=>exact HC0_1.out);(case side3=>repeat (first | exact (Kd.C_below HR0_2.out HB.out) | (with_reducible refine cA_ ?_ _) | (with_reducible refine cN_ ?_ _) | (with_reducible refine cD_ ?_)));(case side4=>exact HC0_2.out);(case side5=>repeat (first | exact (Kd.C_below HR0_3.out HB.out) | (with_reducible refine cA_ ?_ _) | (with_reducible refine cN_ ?_ _) | (with_reducible refine cD_ ?_)));(case side6=>exact HC0_3.out);rintro e w41 ⟨rfl,hb⟩;have n0_:=aM_ (blk_below (g:=gb141) (o:=.cells #[.bool false,.slice A0_1 l0_1.length c0_1,.slice A0_2 l0_2.length c0_2,.slice A0_3 l0_3.length c0_3] 29 (0,0)) (by exact kZ_ BK141) hb);have n1_:=aM_ (bT_ (by exact bZ_ HB) hb);clear BK141 HB;have BK141:=n0_;have HB:=n1_;clear n0_ n1_ hb))
           go_ret
           exact ⟨by first | rfl | (simp [errW_none,errW_some] <;> rfl) | (simp [*, errW_none,errW_some] <;> rfl),by exact bZ_ HB⟩
          ·rw [if_neg c38] at H
           have c38b0 : ((l0_2.length : Int) == 0) = false:=beq_eq_false_iff_ne.mpr c38
           have c38b1 : ((l0_2.length : Int) != 0) = true:=bne_iff_ne.mpr c38
           have c38b2 : ¬ (l0_2 = []):=fun h_=>c38 (by rw [h_];rfl)
           obtain rfl:=Option.some.inj H
           have hcz42_0 : wr.cell? ⟨gb141,0,none⟩ = some (.bool false):=(kC_ BK141.out 0).trans rfl
           have hcz42_1 : wr.cell? ⟨gb141,1,none⟩ = some (.slice A0_1 l0_1.length c0_1):=(kC_ BK141.out 1).trans rfl
           have hcz42_2 : wr.cell? ⟨gb141,2,none⟩ = some (.slice A0_2 l0_2.length c0_2):=(kC_ BK141.out 2).trans rfl
           have hcz42_3 : wr.cell? ⟨gb141,3,none⟩ = some (.slice A0_3 l0_3.length c0_3):=(kC_ BK141.out 3).trans rfl
           have hfz42_0:=kF_ BK141.out 0
           have hfz42_1:=kF_ BK141.out 1
           have hfz42_2:=kF_ BK141.out 2
           have hfz42_3:=kF_ BK141.out 3
           go_wp2
           go_ret
           exact ⟨by first | rfl | (simp [errW_none,errW_some] <;> rfl) | (simp [*, errW_none,errW_some] <;> rfl),by exact bZ_ HB⟩
         ·rw [if_neg c37] at H
          have c37b0 : ((l0_1.length : Int) == (wrap64 ((l0_3.length : Int) - 1))) = false:=beq_eq_false_iff_ne.mpr c37
          have c37b1 : ((l0_1.length : Int) != (wrap64 ((l0_3.length : Int) - 1))) = true:=bne_iff_ne.mpr c37
          obtain rfl:=Option.some.inj H
          have hcz43_0 : wr.cell? ⟨gb141,0,none⟩ = some (.bool false):=(kC_ BK141.out 0).trans rfl
          have hcz43_1 : wr.cell? ⟨gb141,1,none⟩ = some (.slice A0_1 l0_1.length c0_1):=(kC_ BK141.out 1).trans rfl
          have hcz43_2 : wr.cell? ⟨gb141,2,none⟩ = some (.slice A0_2 l0_2.length c0_2):=(kC_ BK141.out 2).trans rfl
          have hcz43_3 : wr.cell? ⟨gb141,3,none⟩ = some (.slice A0_3 l0_3.length c0_3):=(kC_ BK141.out 3).trans rfl
          have hfz43_0:=kF_ BK141.out 0
          have hfz43_1:=kF_ BK141.out 1
          have hfz43_2:=kF_ BK141.out 2
          have hfz43_3:=kF_ BK141.out 3
          go_wp2
          go_ret
          exact ⟨by first | rfl | (simp [errW_none,errW_some] <;> rfl) | (simp [*, errW_none,errW_some] <;> rfl),by exact bZ_ HB⟩
        ·rw [if_neg c36] at H
         have c36b0 : decide (0 < (l0_3.length : Int)) = false:=decide_eq_false c36
         have c36b1 : decide (0 < l0_3.length) = false:=decide_eq_false (by omega)
         clear c36
         obtain rfl:=Option.some.inj H
         have hcz44_0 : wr.cell? ⟨gb141,0,none⟩ = some (.bool false):=(kC_ BK141.out 0).trans rfl
         have hcz44_1 : wr.cell? ⟨gb141,1,none⟩ = some (.slice A0_1 l0_1.length c0_1):=(kC_ BK141.out 1).trans rfl
         have hcz44_2 : wr.cell? ⟨gb141,2,none⟩ = some (.slice A0_2 l0_2.length c0_2):=(kC_ BK141.out 2).trans rfl
         have hcz44_3 : wr.cell? ⟨gb141,3,none⟩ = some (.slice A0_3 l0_3.length c0_3):=(kC_ BK141.out 3).trans rfl
         have hfz44_0:=kF_ BK141.out 0
         have hfz44_1:=kF_ BK141.out 1
         have hfz44_2:=kF_ BK141.out 2
         have hfz44_3:=kF_ BK141.out 3
         go_wp2
         go_ret
         exact ⟨by first | rfl | (simp [errW_none,errW_some] <;> rfl) | (simp [*, errW_none,errW_some] <;> rfl),by exact bZ_ HB⟩
def impl_PutNode.f (k : Nat) (a0_0 : Bool) (l0_1 : List ByteArray) (l0_2 : List ByteArray) (l0_3 : List Int) : Option (List Int):=(impl_NodeOk.f k a0_0 l0_1 l0_2 l0_3).bind fun t150=>(if t150 = true then ((impl_bodyOf.f k a0_0 l0_1 l0_2 l0_3).bind fun t151=>(some t151)) else (some ([] : List Int)))
theorem impl_PutNode.mono : ∀ a0 a1 a2 a3 k,LeO (impl_PutNode.f k a0 a1 a2 a3) (impl_PutNode.f (k + 1) a0 a1 a2 a3):=by
 intro a0 a1 a2 a3 k
 unfold impl_PutNode.f
 repeat' first
   | (with_reducible exact impl_NodeOk.mono _ _ _ _ _)
   | (with_reducible exact impl_bodyOf.mono _ _ _ _ _)
   | (with_reducible exact LeO.refl _)
   | (with_reducible exact LeO.none _)
   | (with_reducible refine LeO.ite ?_ ?_)
   | (with_reducible refine LeO.bind ?_ (fun _=>?_))
   | exact impl_NodeOk.mono _ _ _ _ _
   | exact impl_bodyOf.mono _ _ _ _ _
   | exact LeO.none _
   | refine LeO.ite ?_ ?_
   | refine LeO.bind ?_ (fun _=>?_)
set_option maxHeartbeats 8000000 in
set_option maxRecDepth 100000 in
theorem impl_PutNode.calls (k : Nat) (a0_0 : Bool) (A0_1 : Option Addr) (c0_1 : Nat) (l0_1 : List ByteArray) (A0_2 : Option Addr) (c0_2 : Nat) (l0_2 : List ByteArray) (A0_3 : Option Addr) (c0_3 : Nat) (l0_3 : List Int) (r : List Int) (w : World) (hr0_1 : Kd.C Kd.string w A0_1 l0_1.length l0_1) (hc0_1 : l0_1.length ≤ c0_1) (hr0_2 : Kd.C Kd.string w A0_2 l0_2.length l0_2) (hc0_2 : l0_2.length ≤ c0_2) (hr0_3 : Kd.C (Kd.int .i64) w A0_3 l0_3.length l0_3) (hc0_3 : l0_3.length ≤ c0_3) (h : impl_PutNode.f k a0_0 l0_1 l0_2 l0_3 = some r) :
  Calls Try.prog 15 #[.agg #[.bool a0_0,.slice A0_1 l0_1.length c0_1,.slice A0_2 l0_2.length c0_2,.slice A0_3 l0_3.length c0_3]] w fun e w'=>∃ v0_ : Value,e = .returned (v0_) ∧ Kd.R (Kd.int .u8) 5 w' w.heap.size (fun _=>True) v0_ r ∧ Below w.heap.size w w':=by
 have hu29:=Try.underlying29
 have HR0_1:=aM_ hr0_1
 have HC0_1:=aM_ hc0_1
 clear hr0_1 hc0_1
 have HR0_2:=aM_ hr0_2
 have HC0_2:=aM_ hc0_2
 clear hr0_2 hc0_2
 have HR0_3:=aM_ hr0_3
 have HC0_3:=aM_ hc0_3
 clear hr0_3 hc0_3
 have HB:=aM_ (Below.refl w.heap.size w)
 have H : ((impl_NodeOk.f k a0_0 l0_1 l0_2 l0_3).bind fun t150=>(if t150 = true then ((impl_bodyOf.f k a0_0 l0_1 l0_2 l0_3).bind fun t151=>(some t151)) else (some ([] : List Int)))) = some r:=h
 clear h
 replace H:=oB_ H
 obtain ⟨t150,A20,H⟩:=H
 replace H : (if t150 = true then ((impl_bodyOf.f k a0_0 l0_1 l0_2 l0_3).bind fun t151=>(some t151)) else (some ([] : List Int))) = some r:=H
 have A2:=aM_ A20
 clear A20
 by_cases c3 : t150 = true
 ·subst c3
  have H1 : ((impl_bodyOf.f k a0_0 l0_1 l0_2 l0_3).bind fun t151=>(some t151)) = some r:=by rw [if_pos rfl] at H;exact H
  clear H
  have H:=H1
  clear H1
  replace H:=oB_ H
  obtain ⟨t151,A40,H⟩:=H
  replace H : (some t151) = some r:=H
  have A4:=aM_ A40
  clear A40
  obtain rfl:=Option.some.inj H
  go_enter Try.func15,Try.ntmps15
  go_wp2_with (first | ((with_reducible refine gate_dst (N:=1) rfl ?_);refine box_event ?hg (N:=1) ?hd (cs:=#[.bool a0_0,.slice A0_1 l0_1.length c0_1,.slice A0_2 l0_2.length c0_2,.slice A0_3 l0_3.length c0_3]) (t:=29) ?hr ?_;(case hd=>rfl);(case hg=>rfl);(case hr=>first | (go_simp;done) | (go_simp;rfl));intro gb149 hg w5 hbox hb;have n0_:=aM_ (bT_ (by exact bZ_ HB) hb);have n1_:=aM_ (hbox);have n2_:=aM_ ((by rw [hg];exact (bS_ (by exact bZ_ HB)) : w.heap.size ≤ gb149));have n3_:=aM_ ((by rw [hg];exact (bS_ (by exact bZ_ HB)) : w.heap.size ≤ gb149));clear HB;have HB:=n0_;have BK149:=n1_;have GW149:=n2_;have GE149:=n3_;clear n0_ n1_ n2_ n3_ hb hbox hg;have hcz6_0 : w5.cell? ⟨gb149,0,none⟩ = some (.bool a0_0):=(kC_ BK149.out 0).trans rfl;have hcz6_1 : w5.cell? ⟨gb149,1,none⟩ = some (.slice A0_1 l0_1.length c0_1):=(kC_ BK149.out 1).trans rfl;have hcz6_2 : w5.cell? ⟨gb149,2,none⟩ = some (.slice A0_2 l0_2.length c0_2):=(kC_ BK149.out 2).trans rfl;have hcz6_3 : w5.cell? ⟨gb149,3,none⟩ = some (.slice A0_3 l0_3.length c0_3):=(kC_ BK149.out 3).trans rfl;have hfz6_0:=kF_ BK149.out 0;have hfz6_1:=kF_ BK149.out 1;have hfz6_2:=kF_ BK149.out 2;have hfz6_3:=kF_ BK149.out 3) | ((with_reducible refine gate_callee (f:=28) rfl ?_);refine goesL_ (some 4) rfl rfl Try.func28 (by kernel_rfl) rfl #[.agg #[.bool a0_0,.slice A0_1 l0_1.length c0_1,.slice A0_2 l0_2.length c0_2,.slice A0_3 l0_3.length c0_3]] rfl (by (try simp only [mA_,mC_,mN_]);first | done | rfl | (simp only [lD_,lT_];rfl)) ?_;(with_reducible refine (impl_NodeOk.calls k a0_0 _ _ l0_1 _ _ l0_2 _ _ l0_3 true _ ?side1 ?side2 ?side3 ?side4 ?side5 ?side6 A2.out).mono ?_);(case side1=>repeat (first | exact (Kd.C_below HR0_1.out HB.out) | (with_reducible refine cA_ ?_ _) | (with_reducible refine cN_ ?_ _) | (with_reducible refine cD_ ?_)));(case side2=>exact HC0_1.out);(case side3=>repeat (first | exact (Kd.C_below HR0_2.out HB.out) | (with_reducible refine cA_ ?_ _) | (with_reducible refine cN_ ?_ _) | (with_reducible refine cD_ ?_)));(case side4=>exact HC0_2.out);(case side5=>repeat (first | exact (Kd.C_below HR0_3.out HB.out) | (with_reducible refine cA_ ?_ _) | (with_reducible refine cN_ ?_ _) | (with_reducible refine cD_ ?_)));(case side6=>exact HC0_3.out);rintro e w7 ⟨rfl,hb⟩;refine ⟨_,rfl,?_⟩;have n0_:=aM_ (blk_below (g:=gb149) (o:=.cells #[.bool a0_0,.slice A0_1 l0_1.length c0_1,.slice A0_2 l0_2.length c0_2,.slice A0_3 l0_3.length c0_3] 29 (0,0)) (by exact kZ_ BK149) hb);have n1_:=aM_ (bT_ (by exact bZ_ HB) hb);clear BK149 HB;have BK149:=n0_;have HB:=n1_;clear n0_ n1_ hb;have hcz8_0 : w7.cell? ⟨gb149,0,none⟩ = some (.bool a0_0):=(kC_ BK149.out 0).trans rfl;have hcz8_1 : w7.cell? ⟨gb149,1,none⟩ = some (.slice A0_1 l0_1.length c0_1):=(kC_ BK149.out 1).trans rfl;have hcz8_2 : w7.cell? ⟨gb149,2,none⟩ = some (.slice A0_2 l0_2.length c0_2):=(kC_ BK149.out 2).trans rfl;have hcz8_3 : w7.cell? ⟨gb149,3,none⟩ = some (.slice A0_3 l0_3.length c0_3):=(kC_ BK149.out 3).trans rfl;have hfz8_0:=kF_ BK149.out 0;have hfz8_1:=kF_ BK149.out 1;have hfz8_2:=kF_ BK149.out 2;have hfz8_3:=kF_ BK149.out 3) | ((with_reducible refine gate_callee (f:=71) rfl ?_);refine goesL_ (some 7) rfl rfl Try.func71 (by kernel_rfl) rfl #[.agg #[.bool a0_0,.slice A0_1 l0_1.length c0_1,.slice A0_2 l0_2.length c0_2,.slice A0_3 l0_3.length c0_3]] rfl (by (try simp only [mA_,mC_,mN_]);first | done | rfl | (simp only [lD_,lT_];rfl)) ?_;(with_reducible refine (impl_bodyOf.calls k a0_0 _ _ l0_1 _ _ l0_2 _ _ l0_3 t151 _ ?side1 ?side2 ?side3 ?side4 ?side5 ?side6 A4.out).mono ?_);(case side1=>repeat (first | exact (Kd.C_below HR0_1.out HB.out) | (with_reducible refine cA_ ?_ _) | (with_reducible refine cN_ ?_ _) | (with_reducible refine cD_ ?_)));(case side2=>exact HC0_1.out);(case side3=>repeat (first | exact (Kd.C_below HR0_2.out HB.out) | (with_reducible refine cA_ ?_ _) | (with_reducible refine cN_ ?_ _) | (with_reducible refine cD_ ?_)));(case side4=>exact HC0_2.out);(case side5=>repeat (first | exact (Kd.C_below HR0_3.out HB.out) | (with_reducible refine cA_ ?_ _) | (with_reducible refine cN_ ?_ _) | (with_reducible refine cD_ ?_)));(case side6=>exact HC0_3.out);rintro e w9 ⟨v152,rfl,ho0,hb⟩;refine ⟨_,rfl,?_⟩;have n0_:=aM_ (Kd.R_lower ho0 (bS_ (by exact bZ_ HB)));have n1_:=aM_ (blk_below (g:=gb149) (o:=.cells #[.bool a0_0,.slice A0_1 l0_1.length c0_1,.slice A0_2 l0_2.length c0_2,.slice A0_3 l0_3.length c0_3] 29 (0,0)) (by exact kZ_ BK149) hb);have n2_:=aM_ (bT_ (by exact bZ_ HB) hb);clear BK149 HB;have HO153:=n0_;have BK149:=n1_;have HB:=n2_;clear n0_ n1_ n2_ hb ho0))
  go_ret
  exact ⟨_,by first | rfl | (simp [errW_none,errW_some] <;> rfl) | (simp [*, errW_none,errW_some] <;> rfl),by exact rZ_ HO153,by exact bZ_ HB⟩
 ·replace c3:=Bool.eq_false_iff.mpr c3
  subst c3
  have H1 : (some ([] : List Int)) = some r:=by rw [if_neg (show ¬ (false = true) by decide)] at H;exact H
  clear H
  have H:=H1
  clear H1
  obtain rfl:=Option.some.inj H
  go_enter Try.func15,Try.ntmps15
  go_wp2_with (first | ((with_reducible refine gate_dst (N:=1) rfl ?_);refine box_event ?hg (N:=1) ?hd (cs:=#[.bool a0_0,.slice A0_1 l0_1.length c0_1,.slice A0_2 l0_2.length c0_2,.slice A0_3 l0_3.length c0_3]) (t:=29) ?hr ?_;(case hd=>rfl);(case hg=>rfl);(case hr=>first | (go_simp;done) | (go_simp;rfl));intro gb149 hg w10 hbox hb;have n0_:=aM_ (bT_ (by exact bZ_ HB) hb);have n1_:=aM_ (hbox);have n2_:=aM_ ((by rw [hg];exact (bS_ (by exact bZ_ HB)) : w.heap.size ≤ gb149));have n3_:=aM_ ((by rw [hg];exact (bS_ (by exact bZ_ HB)) : w.heap.size ≤ gb149));clear HB;have HB:=n0_;have BK149:=n1_;have GW149:=n2_;have GE149:=n3_;clear n0_ n1_ n2_ n3_ hb hbox hg;have hcz11_0 : w10.cell? ⟨gb149,0,none⟩ = some (.bool a0_0):=(kC_ BK149.out 0).trans rfl;have hcz11_1 : w10.cell? ⟨gb149,1,none⟩ = some (.slice A0_1 l0_1.length c0_1):=(kC_ BK149.out 1).trans rfl;have hcz11_2 : w10.cell? ⟨gb149,2,none⟩ = some (.slice A0_2 l0_2.length c0_2):=(kC_ BK149.out 2).trans rfl;have hcz11_3 : w10.cell? ⟨gb149,3,none⟩ = some (.slice A0_3 l0_3.length c0_3):=(kC_ BK149.out 3).trans rfl;have hfz11_0:=kF_ BK149.out 0;have hfz11_1:=kF_ BK149.out 1;have hfz11_2:=kF_ BK149.out 2;have hfz11_3:=kF_ BK149.out 3) | ((with_reducible refine gate_callee (f:=28) rfl ?_);refine goesL_ (some 4) rfl rfl Try.func28 (by kernel_rfl) rfl #[.agg #[.bool a0_0,.slice A0_1 l0_1.length c0_1,.slice A0_2 l0_2.length c0_2,.slice A0_3 l0_3.length c0_3]] rfl (by (try simp only [mA_,mC_,mN_]);first | done | rfl | (simp only [lD_,lT_];rfl)) ?_;(with_reducible refine (impl_NodeOk.calls k a0_0 _ _ l0_1 _ _ l0_2 _ _ l0_3 false _ ?side1 ?side2 ?side3 ?side4 ?side5 ?side6 A2.out).mono ?_);(case side1=>repeat (first | exact (Kd.C_below HR0_1.out HB.out) | (with_reducible refine cA_ ?_ _) | (with_reducible refine cN_ ?_ _) | (with_reducible refine cD_ ?_)));(case side2=>exact HC0_1.out);(case side3=>repeat (first | exact (Kd.C_below HR0_2.out HB.out) | (with_reducible refine cA_ ?_ _) | (with_reducible refine cN_ ?_ _) | (with_reducible refine cD_ ?_)));(case side4=>exact HC0_2.out);(case side5=>repeat (first | exact (Kd.C_below HR0_3.out HB.out) | (with_reducible refine cA_ ?_ _) | (with_reducible refine cN_ ?_ _) | (with_reducible refine cD_ ?_)));(case side6=>exact HC0_3.out);rintro e w12 ⟨rfl,hb⟩;refine ⟨_,rfl,?_⟩;have n0_:=aM_ (blk_below (g:=gb149) (o:=.cells #[.bool a0_0,.slice A0_1 l0_1.length c0_1,.slice A0_2 l0_2.length c0_2,.slice A0_3 l0_3.length c0_3] 29 (0,0)) (by exact kZ_ BK149) hb);have n1_:=aM_ (bT_ (by exact bZ_ HB) hb);clear BK149 HB;have BK149:=n0_;have HB:=n1_;clear n0_ n1_ hb))
  go_ret
  exact ⟨_,by first | rfl | (simp [errW_none,errW_some] <;> rfl) | (simp [*, errW_none,errW_some] <;> rfl),by first | exact Kd.R_nil _ _ _ _ _ | exact Kd.N_nil _ _ _ _ _ | exact Kd.V_nil _ _ _ _ _ | exact Kd.Q_nil _ _ _ _ _ | exact Kd.S_nil _ _ _ _ _,by exact bZ_ HB⟩
end Go.Proofs.Ytllgmgpfdnofmaa.PFnNodes
