import Derived.Test.YtllgmgpfdnofmaaZRRPFnRowsReadx0
import Derived.Test.YtllgmgpfdnofmaaZRRPFnRowsReadx2
namespace Go.Proofs.Ytllgmgpfdnofmaa.PFnRowsRead
open Go.RowKit Go.Proofs.YtllgmgpfdnofmaaW.PrintWords Go.Proofs.YtllgmgpfdnofmaaW.PrintLast Go.Proofs.YtllgmgpfdnofmaaW.PrintMore Go.Proofs.Ytllgmgpfdnofmaa.Xtra
attribute [local go_sem] max2_int min2_int max_two min_two max_three min_three max_four min_four str_leq str_gtr str_geq setCell_drewN cell_set2 cell_set3   -- for this text's walks alone
set_option linter.unusedVariables false
set_option linter.unusedSimpArgs false
mutual
def impl_Crc.l0 : Nat → Int → List Int → Int → Int → Option (Int)
 | 0,_,_,_,_=>none
 | k + 1,x3,x7,x8,x9=>if x9 < x8 then (if 0 ≤ x9 then (if x9 < (x7.length : Int) then (impl_Crc.l1 k (Go.bits .xor .u32 x3 ((rd x7 x9) % 4294967296)) x7 x8 x9 0) else (none)) else (none)) else (some (wrap64 (Go.bits .xor .u32 4294967295 x3)))
def impl_Crc.l1 : Nat → Int → List Int → Int → Int → Int → Option (Int)
 | 0,_,_,_,_,_=>none
 | k + 1,x3,x7,x8,x9,x17=>if x17 < 8 then (if (Go.bits .and .u32 x3 1) = 1 then (impl_Crc.l1 k (Go.bits .xor .u32 (x3 / 2) 2197175160) x7 x8 x9 (wrap64 (x17 + 1))) else (impl_Crc.l1 k (x3 / 2) x7 x8 x9 (wrap64 (x17 + 1)))) else (impl_Crc.l0 k x3 x7 x8 (wrap64 (x9 + 1)))
end
def impl_Crc.f (k : Nat) (l0 : List Int) : Option (Int):=impl_Crc.l0 k 4294967295 l0 (l0.length : Int) 0
theorem impl_Crc.mono_l : ∀ k,(∀ y0 y1 y2 y3,LeO (impl_Crc.l0 k y0 y1 y2 y3) (impl_Crc.l0 (k + 1) y0 y1 y2 y3)) ∧ (∀ y0 y1 y2 y3 y4,LeO (impl_Crc.l1 k y0 y1 y2 y3 y4) (impl_Crc.l1 (k + 1) y0 y1 y2 y3 y4))
 | 0=>⟨fun _ _ _ _ r h=>by simp [impl_Crc.l0] at h,fun _ _ _ _ _ r h=>by simp [impl_Crc.l1] at h⟩
 | k + 1=>by
  obtain ⟨ih0,ih1⟩:=impl_Crc.mono_l k
  refine ⟨?_,?_⟩
  ·intro y0 y1 y2 y3
   unfold impl_Crc.l0
   repeat' first
   | (with_reducible exact ih0 _ _ _ _)
   | (with_reducible exact ih1 _ _ _ _ _)
   | (with_reducible exact LeO.refl _)
   | (with_reducible exact LeO.none _)
   | (with_reducible refine LeO.ite ?_ ?_)
   | (with_reducible refine LeO.bind ?_ (fun _=>?_))
   | exact ih0 _ _ _ _
   | exact ih1 _ _ _ _ _
   | exact LeO.none _
   | refine LeO.ite ?_ ?_
   | refine LeO.bind ?_ (fun _=>?_)
  ·intro y0 y1 y2 y3 y4
   unfold impl_Crc.l1
   repeat' first
   | (with_reducible exact ih0 _ _ _ _)
   | (with_reducible exact ih1 _ _ _ _ _)
   | (with_reducible exact LeO.refl _)
   | (with_reducible exact LeO.none _)
   | (with_reducible refine LeO.ite ?_ ?_)
   | (with_reducible refine LeO.bind ?_ (fun _=>?_))
   | exact ih0 _ _ _ _
   | exact ih1 _ _ _ _ _
   | exact LeO.none _
   | refine LeO.ite ?_ ?_
   | refine LeO.bind ?_ (fun _=>?_)
theorem impl_Crc.mono : ∀ a0 k,LeO (impl_Crc.f k a0) (impl_Crc.f (k + 1) a0):=by
 intro a0 k
 obtain ⟨ih0,ih1⟩:=impl_Crc.mono_l k
 unfold impl_Crc.f
 repeat' first
   | (with_reducible exact ih0 _ _ _ _)
   | (with_reducible exact ih1 _ _ _ _ _)
   | (with_reducible exact LeO.refl _)
   | (with_reducible exact LeO.none _)
   | (with_reducible refine LeO.ite ?_ ?_)
   | (with_reducible refine LeO.bind ?_ (fun _=>?_))
   | exact ih0 _ _ _ _
   | exact ih1 _ _ _ _ _
   | exact LeO.none _
   | refine LeO.ite ?_ ?_
   | refine LeO.bind ?_ (fun _=>?_)
set_option maxHeartbeats 8000000 in
set_option maxRecDepth 100000 in
theorem impl_Crc.calls (k : Nat) (A0 : Option Addr) (c0 : Nat) (l0 : List Int) (r : Int) (w : World) (hr0 : Kd.C (Kd.int .u8) w A0 l0.length l0) (hc0 : l0.length ≤ c0) (h : impl_Crc.f k l0 = some r) :
  Calls Try.prog 152 #[.slice A0 l0.length c0] w fun e w'=>e = .returned (.int .i64 r) ∧ Drawn0 w w':=by
 have HR0:=aM_ hr0
 have HC0:=aM_ hc0
 clear hr0 hc0
 have H : (impl_Crc.l0 k 4294967295 l0 (l0.length : Int) 0) = some r:=h
 clear h
 have H':=aM_ H
 clear H
 go_enter Try.func152,Try.ntmps152
 go_wp2
 (try simp only [Act.put,sI_,sS_,sZ_])
 go_loopg [3,9] k (fun kq v3 v9 w'=>∃ (x3_1 : Int) (x9_1 : Int),v3 = .int .u32 x3_1 ∧ v9 = .int .i64 x9_1 ∧ Aside0 (impl_Crc.l0 kq x3_1 l0 (l0.length : Int) x9_1 = some r) ∧ Aside0 (kq ≤ k) ∧ Drawn0 w w')
 case atStart=>exact ⟨(4294967295),(0),(by first | rfl | (simp;done) | (simp [*];done)),(by first | rfl | (simp;done) | (simp [*];done)),H', ⟨Nat.le_refl _⟩,by repeat (first | exact Drawn0.refl _ | apply Drawn0.step)⟩
 case round =>
  clear H'
  try clear c1
  obtain ⟨x3_1,x9_1,rfl,rfl,HA,HK1,⟨m1,rfl⟩⟩:=hrel
  cases gk with
  | zero=>exact absurd HA.out (by simp [impl_Crc.l0])
  | succ k1 =>
   have H:=HA.out
   clear HA
   simp only [impl_Crc.l0] at H
   by_cases c2 : x9_1 < (l0.length : Int)
   ·rw [if_pos c2] at H
    have c2b0 : decide (x9_1 < (l0.length : Int)) = true:=decide_eq_true c2
    clear c2
    by_cases c3 : 0 ≤ x9_1
    ·rw [if_pos c3] at H
     have c3b0 : decide (0 ≤ x9_1) = true:=decide_eq_true c3
     clear c3
     by_cases c4 : x9_1 < (l0.length : Int)
     ·rw [if_pos c4] at H
      have c4b0 : decide (x9_1 < (l0.length : Int)) = true:=decide_eq_true c4
      clear c4
      have H':=aM_ H
      clear H
      have p153 : 0 ≤ (x9_1 : Int):=oT_ (by first | (with_reducible assumption) | assumption)
      have q153 : x9_1 < (l0.length : Int):=oT_ (by first | (with_reducible assumption) | assumption)
      obtain ⟨ad153,e153,hx153_0⟩:=Kd.at_int HR0.out x9_1 p153 q153
      cases e153
      replace p153:=eq_true p153
      replace q153:=eq_true q153
      go_wp2
      (try simp only [Act.put,sI_,sS_,sZ_])
      go_loopg [3,17] k1 (fun kq v3 v17 w'=>∃ (x3_2 : Int) (x17_2 : Int),v3 = .int .u32 x3_2 ∧ v17 = .int .i64 x17_2 ∧ Aside0 (impl_Crc.l1 kq x3_2 l0 (l0.length : Int) x9_1 x17_2 = some r) ∧ Aside0 (kq ≤ k1) ∧ Drawn0 w w')
      case atStart=>exact ⟨(Go.bits .xor .u32 x3_1 ((rd l0 x9_1) % 4294967296)),(0),(by first | rfl | (simp;done) | (simp [*];done)),(by first | rfl | (simp;done) | (simp [*];done)),H', ⟨Nat.le_refl _⟩,by repeat (first | exact Drawn0.refl _ | apply Drawn0.step)⟩
      case round =>
       clear H'
       try clear c1
       try clear p1
       try clear q1
       try clear hx1
       try clear c2
       try clear c2b0
       try clear p2
       try clear c3
       try clear c3b0
       try clear c4
       try clear c4b0
       try clear hx153_0
       try clear p153
       try clear q153
       obtain ⟨x3_2,x17_2,rfl,rfl,HA,HK2,⟨m2,rfl⟩⟩:=hrel
       cases gk with
       | zero=>exact absurd HA.out (by simp [impl_Crc.l1])
       | succ k2 =>
        have H:=HA.out
        clear HA
        simp only [impl_Crc.l1] at H
        by_cases c5 : x17_2 < 8
        ·rw [if_pos c5] at H
         have c5b0 : decide (x17_2 < 8) = true:=decide_eq_true c5
         clear c5
         by_cases c6 : (Go.bits .and .u32 x3_2 1) = 1
         ·rw [if_pos c6] at H
          have c6b0 : ((Go.bits .and .u32 x3_2 1) == 1) = true:=beq_iff_eq.mpr c6
          have c6b1 : ((Go.bits .and .u32 x3_2 1) != 1) = false:=bne_eq_false_iff_eq.mpr c6
          clear c6
          have H':=aM_ H
          clear H
          go_wp2
          go_roundg k2
          case measure=>have:=HK1.out;have:=HK2.out;omega
          case rel=>exact ⟨(Go.bits .xor .u32 (x3_2 / 2) 2197175160),(wrap64 (x17_2 + 1)),(by first | rfl | (simp;done) | (simp [*];done)),(by first | rfl | (simp;done) | (simp [*];done)),H', ⟨by have:=HK1.out;have:=HK2.out;omega⟩,by repeat (first | exact Drawn0.refl _ | apply Drawn0.step)⟩
         ·rw [if_neg c6] at H
          have c6b0 : ((Go.bits .and .u32 x3_2 1) == 1) = false:=beq_eq_false_iff_ne.mpr c6
          have c6b1 : ((Go.bits .and .u32 x3_2 1) != 1) = true:=bne_iff_ne.mpr c6
          have H':=aM_ H
          clear H
          go_wp2
          go_roundg k2
          case measure=>have:=HK1.out;have:=HK2.out;omega
          case rel=>exact ⟨(x3_2 / 2),(wrap64 (x17_2 + 1)),(by first | rfl | (simp;done) | (simp [*];done)),(by first | rfl | (simp;done) | (simp [*];done)),H', ⟨by have:=HK1.out;have:=HK2.out;omega⟩,by repeat (first | exact Drawn0.refl _ | apply Drawn0.step)⟩
        ·rw [if_neg c5] at H
         have c5b0 : decide (x17_2 < 8) = false:=decide_eq_false c5
         clear c5
         have H':=aM_ H
         clear H
         go_wp2
         go_roundg k2
         case measure=>have:=HK1.out;have:=HK2.out;omega
         case rel=>exact ⟨(x3_2),(wrap64 (x9_1 + 1)),(by first | rfl | (simp;done) | (simp [*];done)),(by first | rfl | (simp;done) | (simp [*];done)),H', ⟨by have:=HK1.out;have:=HK2.out;omega⟩,by repeat (first | exact Drawn0.refl _ | apply Drawn0.step)⟩
     ·rw [if_neg c4] at H
      exact absurd H (by simp)
    ·rw [if_neg c3] at H
     exact absurd H (by simp)
   ·rw [if_neg c2] at H
    have c2b0 : decide (x9_1 < (l0.length : Int)) = false:=decide_eq_false c2
    clear c2
    obtain rfl:=Option.some.inj H
    go_wp2
    go_ret
    exact ⟨by first | rfl | (simp;done) | (simp [*];done),by repeat (first | exact Drawn0.refl _ | apply Drawn0.step)⟩
def impl_addSum.f (k : Nat) (l0 : List Int) : Option (List Int):=(impl_Crc.f k l0).bind fun t154=>((some (([(t154 / 16777216) % 256,(t154 / 65536) % 256,(t154 / 256) % 256,(t154) % 256] : List Int) : List Int)).bind fun y155=>(if l0.length + y155.length < 140737488355328 then (some (l0 ++ y155)) else (none)))
theorem impl_addSum.mono : ∀ a0 k,LeO (impl_addSum.f k a0) (impl_addSum.f (k + 1) a0):=by
 intro a0 k
 unfold impl_addSum.f
 repeat' first
   | (with_reducible exact impl_Crc.mono _ _)
   | (with_reducible exact LeO.refl _)
   | (with_reducible exact LeO.none _)
   | (with_reducible refine LeO.ite ?_ ?_)
   | (with_reducible refine LeO.bind ?_ (fun _=>?_))
   | exact impl_Crc.mono _ _
   | exact LeO.none _
   | refine LeO.ite ?_ ?_
   | refine LeO.bind ?_ (fun _=>?_)
set_option maxHeartbeats 8000000 in
set_option maxRecDepth 100000 in
theorem impl_addSum.calls (k : Nat) (P0_ : Nat → Prop) (u9000_ : Value) (l0 : List Int) (r : List Int) (w0 w : World) (hB : Below w0.heap.size w0 w) (ho0 : Kd.R (Kd.int .u8) 5 w w0.heap.size P0_ u9000_ l0) (h : impl_addSum.f k l0 = some r) :
  Calls Try.prog 102 #[u9000_] w fun e w'=>∃ v0_ : Value,e = .returned (v0_) ∧ Kd.R (Kd.int .u8) 5 w' w0.heap.size (fun k_=>(P0_ k_ ∨ w.heap.size ≤ k_)) v0_ r ∧ Below w0.heap.size w0 w' ∧ Kept w w' (fun k_=>P0_ k_):=by
 have HO0:=aM_ (show Kd.R (Kd.int .u8) 5 w w0.heap.size (fun k_=>(P0_ k_ ∨ w.heap.size ≤ k_)) u9000_ l0 from Kd.R_mono ho0 (fun k_ hk=>(.inl hk)))
 have HK:=aM_ (Kept.refl w (fun k_=>P0_ k_))
 have HW0:=aM_ hB.size
 have HB:=aM_ hB
 clear hB
 have H : ((impl_Crc.f k l0).bind fun t154=>((some (([(t154 / 16777216) % 256,(t154 / 65536) % 256,(t154 / 256) % 256,(t154) % 256] : List Int) : List Int)).bind fun y155=>(if l0.length + y155.length < 140737488355328 then (some (l0 ++ y155)) else (none)))) = some r:=h
 clear h
 replace H:=oB_ H
 obtain ⟨t154,A20,H⟩:=H
 replace H : ((some (([(t154 / 16777216) % 256,(t154 / 65536) % 256,(t154 / 256) % 256,(t154) % 256] : List Int) : List Int)).bind fun y155=>(if l0.length + y155.length < 140737488355328 then (some (l0 ++ y155)) else (none))) = some r:=H
 have A2:=aM_ A20
 clear A20
 obtain ⟨y155,hy155⟩ : ∃ y_ : List Int,y_ = (([(t154 / 16777216) % 256,(t154 / 65536) % 256,(t154 / 256) % 256,(t154) % 256] : List Int)):=⟨_,rfl⟩
 replace H : (if l0.length + y155.length < 140737488355328 then (some (l0 ++ y155)) else (none)) = some r:=by first | (rw [hy155];with_reducible exact H) | (have H2_:=(Option.bind_some _ _).symm.trans H;rw [hy155];with_reducible exact H2_) | (have H2_:=(Option.bind_some _ _).symm.trans H;with_reducible exact H2_) | with_reducible exact H | (rw [hy155];exact H) | exact H
 have Ny155:=aM_ hy155
 clear hy155
 by_cases c3 : l0.length + y155.length < 140737488355328
 ·rw [if_pos c3] at H
  have LMc3:=aM_ c3
  clear c3
  obtain ⟨y158,hy158⟩ : ∃ y_ : List Int,y_ = (l0 ++ y155):=⟨_,rfl⟩
  replace H : (some y158) = some r:=by first | (rw [hy158];with_reducible exact H) | (have H2_:=(Option.bind_some _ _).symm.trans H;rw [hy158];with_reducible exact H2_) | (have H2_:=(Option.bind_some _ _).symm.trans H;with_reducible exact H2_) | with_reducible exact H | (rw [hy158];exact H) | exact H
  have Ny158:=aM_ hy158
  clear hy158
  obtain rfl:=Option.some.inj H
  obtain ⟨Ao4,co4,eo4⟩:=Kd.R_slice HO0.out
  subst eo4
  go_enter Try.func102,Try.ntmps102
  go_wp2_with (first | ((with_reducible refine gate_callee (f:=152) rfl ?_);refine goesL_ (some 5) rfl rfl Try.func152 (by kernel_rfl) rfl #[.slice Ao4 l0.length co4] rfl (by (try simp only [mA_,mC_,mN_]);first | done | rfl | (simp only [lD_,lT_];rfl)) ?_;(with_reducible refine (impl_Crc.calls k _ _ l0 t154 _ ?side1 ?side2 A2.out).mono ?_);(case side1=>repeat (first | exact (Kd.R_reads' HO0.out).2.2 | (with_reducible refine cA_ ?_ _) | (with_reducible refine cN_ ?_ _) | (with_reducible refine cD_ ?_)));(case side2=>exact (Kd.R_reads' HO0.out).2.1);rintro e w' ⟨rfl,⟨nd,rfl⟩⟩;refine ⟨_,rfl,?_⟩) | ((with_reducible refine gate_dst (N:=18) rfl ?_);refine Kd.R_lit (Kd.int .u8) _ 5 ?hg (N:=18) ?hd (xs:=([(t154 / 16777216) % 256,(t154 / 65536) % 256,(t154 / 256) % 256,(t154) % 256] : List Int)) (inner:=[.int .u8 ((t154 / 16777216) % 256),.int .u8 ((t154 / 65536) % 256),.int .u8 ((t154 / 256) % 256),.int .u8 ((t154) % 256)]) (ok:=fun _=>True) (okp:=fun _=>True) ?hr ?hp (fun _ hk=>hk) trivial (Below.refl _ _) (Nat.le_refl _) (by simp) ?_;(case hd=>rfl);(case hg=>rfl);(case hr=>first | (go_simp;done) | (go_simp;rfl));(case hp=>exact (Reps.one (show Kd.M (Kd.int .u8) _ _ _ ((t154 / 16777216) % 256) [.int .u8 ((t154 / 16777216) % 256)] from rfl) (Reps.one (show Kd.M (Kd.int .u8) _ _ _ ((t154 / 65536) % 256) [.int .u8 ((t154 / 65536) % 256)] from rfl) (Reps.one (show Kd.M (Kd.int .u8) _ _ _ ((t154 / 256) % 256) [.int .u8 ((t154 / 256) % 256)] from rfl) (Reps.one (show Kd.M (Kd.int .u8) _ _ _ ((t154) % 256) [.int .u8 ((t154) % 256)] from rfl) (Reps.none _ _))))));intro v156 w5 ho6 hb hg_ hnew_;clear hg_ hnew_;(first | rw [← Ny155.out] at ho6 | (simp only [Int.reduceToNat] at ho6;rw [← Ny155.out] at ho6));have n0_:=aM_ (Kd.R_elder' (by exact rZ_ HO0) (Kd.R_base ho6) hb);have n1_:=aM_ (Kd.R_lower (Kd.R_new' (Kd.R_newM (M:=fun k_=>(P0_ k_ ∨ w.heap.size ≤ k_)) ho6 (by first | exact HK.out.1 | exact (show Kept w _ (fun k_=>P0_ k_) from by repeat (first | (with_reducible first | exact HK.out | apply Kept.alloc | apply Kept.drewN | apply Kept.drew) | exact HK.out)).1) (fun k_ h_=>.inr h_)) (Kd.R_lt (by exact rZ_ HO0))) (bS_ (by exact bZ_ HB)));have n2_:=aM_ (Kept.below (S:=(fun k_=>P0_ k_)) (by repeat (first | (with_reducible first | exact HK.out | apply Kept.alloc | apply Kept.drewN | apply Kept.drew) | exact HK.out)) hb);have n3_:=aM_ (bT_ (by exact bZ_ HB) hb);clear HO0;clear HK;clear HB;have HO0:=n0_;have HO157:=n1_;have HK:=n2_;have HB:=n3_;clear n0_ n1_ n2_ n3_;clear hb ho6;obtain ⟨Ao8,co8,eo8⟩:=Kd.R_slice HO157.out;subst eo8) | ((with_reducible refine gate_builtin (b:=.append) (xs:=#[.tmp 6,.tmp 18]) rfl ?_);at_builtin;refine Kd.R_append_rows (Kd.int .u8) (w0:=w0) w0.heap.size rfl (.tmp 6) (.tmp 18) 27 5 (.int .u8 0) 1 rfl Try.underlying27 info5 rfl (by decide) (by omega) (.slice Ao4 l0.length co4) l0 y155 _ _ _ (fun k_=>(P0_ k_ ∨ w.heap.size ≤ k_) ∧ some k_ ≠ (.slice Ao8 y155.length co8 : Value).ownBlock) (fun _=>False) rfl rfl ?aO ?aR (fun _ _ h=>h) (fun _ h=>h.elim) ?aF ?aB ?aS ?aL ?_;(case aR=>repeat (first | exact (Kd.R_reads' HO157.out).2.2 | (with_reducible refine cA_ ?_ _) | (with_reducible refine cN_ ?_ _) | (with_reducible refine cD_ ?_)));(case aB=>exact (by exact bZ_ HB));(case aF=>exact (fun k_ hk=>⟨(.inr (Nat.le_trans (by first | exact HK.out.1 | exact (show Kept w _ (fun k_=>P0_ k_) from by repeat (first | (with_reducible first | exact HK.out | apply Kept.alloc | apply Kept.drewN | apply Kept.drew) | exact HK.out)).1) hk)),Kd.fresh' (Kd.R_lt (by exact rZ_ HO157)) k_ hk⟩));(case aO=>exact (by exact rZ_ HO0));(case aS=>exact (bS_ (by exact bZ_ HB)));(case aL=>have:=LMc3.out;omega);intro v159 w7 ho hb hg hat;rw [← Ny158.out] at ho;have n0_:=aM_ (Kd.R_after (ok:=(fun k_=>(P0_ k_ ∨ w.heap.size ≤ k_))) (by (with_reducible repeat (first | apply rA_ | apply rN_ | apply rD_));exact Kd.R_mono HO157.out (fun _ hk=>⟨hk.1.1,hk.2⟩)) hg hat);have n1_:=aM_ (hb);have n2_:=aM_ (Kept.of_grown (S:=(fun k_=>P0_ k_)) hg (by repeat (first | (with_reducible first | exact HK.out | apply Kept.alloc | apply Kept.drewN | apply Kept.drew) | exact HK.out)) (fun k_ e_=>(HO0.out.1 k_ e_).1));have n3_:=aM_ (ho);clear HO157;clear HB;clear HK;clear HO0;have HO157:=n0_;have HB:=n1_;have HK:=n2_;have HO160:=n3_;clear n0_ n1_ n2_ n3_;clear ho hb hg hat))
  go_ret
  exact ⟨_,by first | rfl | (simp [errW_none,errW_some] <;> rfl) | (simp [*, errW_none,errW_some] <;> rfl),by (with_reducible repeat (first | apply rA_ | apply rN_ | apply rD_));exact Kd.R_mono HO160.out (fun _ hk=>hk.1),by exact bZ_ HB,by repeat (first | (with_reducible first | exact HK.out | apply Kept.alloc | apply Kept.drewN | apply Kept.drew) | exact HK.out)⟩
 ·rw [if_neg c3] at H
  exact absurd H (by simp)
mutual
def impl_EncodeRow.l0 : Nat → List Int → List (S116) → Int → Int → Option (List Int)
 | 0,_,_,_,_=>none
 | k + 1,x5,x15,x16,x17=>if x17 < x16 then (if 0 ≤ x17 then (if x17 < (x15.length : Int) then ((impl_addU.f k x5 ((rd_T116 x15 x17).f0)).bind fun t170=>(if ((rd_T116 x15 x17).f0) = 1 then (impl_EncodeRow.j1 k t170 x15 x16 x17 ((rd_T116 x15 x17).f0) (((rd_T116 x15 x17).f0) == 1) ((rd_T116 x15 x17).f0) ((rd_T116 x15 x17).f1) ((rd_T116 x15 x17).f2)) else (impl_EncodeRow.j1 k t170 x15 x16 x17 ((rd_T116 x15 x17).f0) (((rd_T116 x15 x17).f0) == 2) ((rd_T116 x15 x17).f0) ((rd_T116 x15 x17).f1) ((rd_T116 x15 x17).f2)))) else (none)) else (none)) else ((impl_addSum.f k x5).bind fun t165=>(some t165))
def impl_EncodeRow.j1 : Nat → List Int → List (S116) → Int → Int → Int → Bool → Int → Int → ByteArray → Option (List Int)
 | 0,_,_,_,_,_,_,_,_,_=>none
 | k + 1,x5,x15,x16,x17,x26,x27,x170000,x170001,x170002=>if x27 = true then ((impl_addVar.f k x5 x170001).bind fun t173=>(impl_EncodeRow.l0 k t173 x15 x16 (wrap64 (x17 + 1)))) else (if x26 = 3 then ((impl_addText.f k x5 x170002).bind fun t176=>(impl_EncodeRow.l0 k t176 x15 x16 (wrap64 (x17 + 1)))) else (if x26 = 4 then (if x5.length < 140737488355328 then (impl_EncodeRow.l0 k (x5 ++ [(x170001) % 256]) x15 x16 (wrap64 (x17 + 1))) else (none)) else (impl_EncodeRow.l0 k x5 x15 x16 (wrap64 (x17 + 1)))))
end
def impl_EncodeRow.f (k : Nat) (l0 : List (S119)) (l1 : List (S116)) : Option (List Int):=(impl_RowOk.f k l0 l1).bind fun t161=>(if t161 = true then ((impl_addU.f k ([] : List Int) (l1.length : Int)).bind fun t162=>(impl_EncodeRow.l0 k t162 l1 (l1.length : Int) 0)) else (some ([] : List Int)))
theorem impl_EncodeRow.mono_l : ∀ k,(∀ y0 y1 y2 y3,LeO (impl_EncodeRow.l0 k y0 y1 y2 y3) (impl_EncodeRow.l0 (k + 1) y0 y1 y2 y3)) ∧ (∀ y0 y1 y2 y3 y4 y5 y6 y7 y8,LeO (impl_EncodeRow.j1 k y0 y1 y2 y3 y4 y5 y6 y7 y8) (impl_EncodeRow.j1 (k + 1) y0 y1 y2 y3 y4 y5 y6 y7 y8))
 | 0=>⟨fun _ _ _ _ r h=>by simp [impl_EncodeRow.l0] at h,fun _ _ _ _ _ _ _ _ _ r h=>by simp [impl_EncodeRow.j1] at h⟩
 | k + 1=>by
  obtain ⟨ih0,ih1⟩:=impl_EncodeRow.mono_l k
  refine ⟨?_,?_⟩
  ·intro y0 y1 y2 y3
   unfold impl_EncodeRow.l0
   repeat' first
   | (with_reducible exact ih0 _ _ _ _)
   | (with_reducible exact ih1 _ _ _ _ _ _ _ _ _)
   | (with_reducible exact impl_RowOk.mono _ _ _)
   | (with_reducible exact impl_addSum.mono _ _)
   | (with_reducible exact impl_addText.mono _ _ _)
   | (with_reducible exact impl_addU.mono _ _ _)
   | (with_reducible exact impl_addVar.mono _ _ _)
   | (with_reducible exact LeO.refl _)
   | (with_reducible exact LeO.none _)
   | (with_reducible refine LeO.ite ?_ ?_)
   | (with_reducible refine LeO.bind ?_ (fun _=>?_))
   | exact ih0 _ _ _ _
   | exact ih1 _ _ _ _ _ _ _ _ _
   | exact impl_RowOk.mono _ _ _
   | exact impl_addSum.mono _ _
   | exact impl_addText.mono _ _ _
   | exact impl_addU.mono _ _ _
   | exact impl_addVar.mono _ _ _
   | exact LeO.none _
   | refine LeO.ite ?_ ?_
   | refine LeO.bind ?_ (fun _=>?_)
  ·intro y0 y1 y2 y3 y4 y5 y6 y7 y8
   unfold impl_EncodeRow.j1
   repeat' first
   | (with_reducible exact ih0 _ _ _ _)
   | (with_reducible exact ih1 _ _ _ _ _ _ _ _ _)
   | (with_reducible exact impl_RowOk.mono _ _ _)
   | (with_reducible exact impl_addSum.mono _ _)
   | (with_reducible exact impl_addText.mono _ _ _)
   | (with_reducible exact impl_addU.mono _ _ _)
   | (with_reducible exact impl_addVar.mono _ _ _)
   | (with_reducible exact LeO.refl _)
   | (with_reducible exact LeO.none _)
   | (with_reducible refine LeO.ite ?_ ?_)
   | (with_reducible refine LeO.bind ?_ (fun _=>?_))
   | exact ih0 _ _ _ _
   | exact ih1 _ _ _ _ _ _ _ _ _
   | exact impl_RowOk.mono _ _ _
   | exact impl_addSum.mono _ _
   | exact impl_addText.mono _ _ _
   | exact impl_addU.mono _ _ _
   | exact impl_addVar.mono _ _ _
   | exact LeO.none _
   | refine LeO.ite ?_ ?_
   | refine LeO.bind ?_ (fun _=>?_)
theorem impl_EncodeRow.mono : ∀ a0 a1 k,LeO (impl_EncodeRow.f k a0 a1) (impl_EncodeRow.f (k + 1) a0 a1):=by
 intro a0 a1 k
 obtain ⟨ih0,ih1⟩:=impl_EncodeRow.mono_l k
 unfold impl_EncodeRow.f
 repeat' first
   | (with_reducible exact ih0 _ _ _ _)
   | (with_reducible exact ih1 _ _ _ _ _ _ _ _ _)
   | (with_reducible exact impl_RowOk.mono _ _ _)
   | (with_reducible exact impl_addSum.mono _ _)
   | (with_reducible exact impl_addText.mono _ _ _)
   | (with_reducible exact impl_addU.mono _ _ _)
   | (with_reducible exact impl_addVar.mono _ _ _)
   | (with_reducible exact LeO.refl _)
   | (with_reducible exact LeO.none _)
   | (with_reducible refine LeO.ite ?_ ?_)
   | (with_reducible refine LeO.bind ?_ (fun _=>?_))
   | exact ih0 _ _ _ _
   | exact ih1 _ _ _ _ _ _ _ _ _
   | exact impl_RowOk.mono _ _ _
   | exact impl_addSum.mono _ _
   | exact impl_addText.mono _ _ _
   | exact impl_addU.mono _ _ _
   | exact impl_addVar.mono _ _ _
   | exact LeO.none _
   | refine LeO.ite ?_ ?_
   | refine LeO.bind ?_ (fun _=>?_)
set_option maxHeartbeats 8000000 in
set_option maxRecDepth 100000 in
theorem impl_EncodeRow.calls (k : Nat) (A0 : Option Addr) (c0 : Nat) (l0 : List (S119)) (A1 : Option Addr) (c1 : Nat) (l1 : List (S116)) (r : List Int) (w : World) (hr0 : Kd.C k119 w A0 l0.length l0) (hc0 : l0.length ≤ c0) (hr1 : Kd.C k116 w A1 l1.length l1) (hc1 : l1.length ≤ c1) (h : impl_EncodeRow.f k l0 l1 = some r) :
  Calls Try.prog 39 #[.slice A0 l0.length c0,.slice A1 l1.length c1] w fun e w'=>∃ v0_ : Value,e = .returned (v0_) ∧ Kd.R (Kd.int .u8) 5 w' w.heap.size (fun _=>True) v0_ r ∧ Below w.heap.size w w':=by
 have hu116:=Try.underlying116
 have HR0:=aM_ hr0
 have HC0:=aM_ hc0
 clear hr0 hc0
 have HR1:=aM_ hr1
 have HC1:=aM_ hc1
 clear hr1 hc1
 have HB:=aM_ (Below.refl w.heap.size w)
 have H : ((impl_RowOk.f k l0 l1).bind fun t161=>(if t161 = true then ((impl_addU.f k ([] : List Int) (l1.length : Int)).bind fun t162=>(impl_EncodeRow.l0 k t162 l1 (l1.length : Int) 0)) else (some ([] : List Int)))) = some r:=h
 clear h
 replace H:=oB_ H
 obtain ⟨t161,A30,H⟩:=H
 replace H : (if t161 = true then ((impl_addU.f k ([] : List Int) (l1.length : Int)).bind fun t162=>(impl_EncodeRow.l0 k t162 l1 (l1.length : Int) 0)) else (some ([] : List Int))) = some r:=H
 have A3:=aM_ A30
 clear A30
 by_cases c4 : t161 = true
 ·subst c4
  have H1 : ((impl_addU.f k ([] : List Int) (l1.length : Int)).bind fun t162=>(impl_EncodeRow.l0 k t162 l1 (l1.length : Int) 0)) = some r:=by rw [if_pos rfl] at H;exact H
  clear H
  have H:=H1
  clear H1
  replace H:=oB_ H
  obtain ⟨t162,A50,H⟩:=H
  replace H : (impl_EncodeRow.l0 k t162 l1 (l1.length : Int) 0) = some r:=H
  have A5:=aM_ A50
  clear A50
  have H':=aM_ H
  clear H
  go_enter Try.func39,Try.ntmps39
  go_wp2_with (first | ((with_reducible refine gate_callee (f:=46) rfl ?_);refine goesL_ (some 10) rfl rfl Try.func46 (by kernel_rfl) rfl #[.slice A0 l0.length c0,.slice A1 l1.length c1] rfl (by (try simp only [mA_,mC_,mN_]);first | done | rfl | (simp only [lD_,lT_];rfl)) ?_;(with_reducible refine (impl_RowOk.calls k _ _ l0 _ _ l1 true _ ?side1 ?side2 ?side3 ?side4 A3.out).mono ?_);(case side1=>repeat (first | exact HR0.out | (with_reducible refine cA_ ?_ _) | (with_reducible refine cN_ ?_ _) | (with_reducible refine cD_ ?_)));(case side2=>exact HC0.out);(case side3=>repeat (first | exact HR1.out | (with_reducible refine cA_ ?_ _) | (with_reducible refine cN_ ?_ _) | (with_reducible refine cD_ ?_)));(case side4=>exact HC1.out);rintro e w6 ⟨rfl,hb⟩;refine ⟨_,rfl,?_⟩;have n0_:=aM_ (bT_ (by exact bZ_ HB) hb);clear HB;have HB:=n0_;clear n0_;(try clear hb);(try clear hb2);(try clear hk);(try clear hi)) | ((with_reducible refine gate_callee (f:=99) rfl ?_);refine goesL_ (some 14) rfl rfl Try.func99 (by kernel_rfl) rfl #[.slice none 0 0,.int .i64 (l1.length : Int)] rfl (by (try simp only [mA_,mC_,mN_]);first | done | rfl | (simp only [lD_,lT_];rfl)) ?_;(refine (impl_addU.calls k (fun k_=>some k_ = (.slice none 0 0 : Value).ownBlock) (.slice none 0 0) ([] : List Int) (l1.length : Int) t162 w _ ?side1 ?side2 A5.out).mono ?_);(case side1=>exact bZ_ HB);(case side2=>exact Kd.R_nil _ _ _ _ _);rintro e w7 ⟨v163,rfl,ho0,hb,hkp⟩;refine ⟨_,rfl,?_⟩;have n0_:=aM_ (Kd.R_mono (ok':=fun k_=>True) ho0 (fun k_ hk_=>trivial));have n1_:=aM_ (hb);clear HB;have HO164:=n0_;have HB:=n1_;clear n0_ n1_;(try clear hb);(try clear hkp);(try clear ho0)))
  (try simp only [Act.put,sI_,sS_,sZ_])
  go_loopg [5,17] k (fun kq v5 v17 w'=>∃ (x5_1 : List Int) (x17_1 : Int),v17 = .int .i64 x17_1 ∧ Aside0 (impl_EncodeRow.l0 kq x5_1 l1 (l1.length : Int) x17_1 = some r) ∧ Aside0 (kq ≤ k) ∧ Aside0 (Kd.R (Kd.int .u8) 5 w' w.heap.size (fun _=>True) v5 x5_1) ∧ Aside0 (Below w.heap.size w w'))
  case atStart=>exact ⟨(t162),(0),(by first | rfl | (simp;done) | (simp [*];done)),H', ⟨Nat.le_refl _⟩,⟨by exact rZ_ HO164⟩,⟨by exact bZ_ HB⟩⟩
  case round =>
   clear H'
   try clear c1
   try clear p2
   try clear c3
   try clear c4
   obtain ⟨x5_1,x17_1,rfl,HA,HK1,HO_5,HB⟩:=hrel
   cases gk with
   | zero=>exact absurd HA.out (by simp [impl_EncodeRow.l0])
   | succ k1 =>
    have H:=HA.out
    clear HA
    simp only [impl_EncodeRow.l0] at H
    by_cases c8 : x17_1 < (l1.length : Int)
    ·rw [if_pos c8] at H
     have c8b0 : decide (x17_1 < (l1.length : Int)) = true:=decide_eq_true c8
     clear c8
     by_cases c9 : 0 ≤ x17_1
     ·rw [if_pos c9] at H
      have c9b0 : decide (0 ≤ x17_1) = true:=decide_eq_true c9
      clear c9
      by_cases c10 : x17_1 < (l1.length : Int)
      ·rw [if_pos c10] at H
       have c10b0 : decide (x17_1 < (l1.length : Int)) = true:=decide_eq_true c10
       clear c10
       replace H:=oB_ H
       obtain ⟨t170,A110,H⟩:=H
       replace H : (if ((rd_T116 l1 x17_1).f0) = 1 then (impl_EncodeRow.j1 k1 t170 l1 (l1.length : Int) x17_1 ((rd_T116 l1 x17_1).f0) (((rd_T116 l1 x17_1).f0) == 1) ((rd_T116 l1 x17_1).f0) ((rd_T116 l1 x17_1).f1) ((rd_T116 l1 x17_1).f2)) else (impl_EncodeRow.j1 k1 t170 l1 (l1.length : Int) x17_1 ((rd_T116 l1 x17_1).f0) (((rd_T116 l1 x17_1).f0) == 2) ((rd_T116 l1 x17_1).f0) ((rd_T116 l1 x17_1).f1) ((rd_T116 l1 x17_1).f2))) = some r:=H
       have A11:=aM_ A110
       clear A110
       have HC12:=aM_ H
       clear H
       have p168 : 0 ≤ (x17_1 : Int):=oT_ (by first | (with_reducible assumption) | assumption)
       have q168 : x17_1 < (l1.length : Int):=oT_ (by first | (with_reducible assumption) | assumption)
       obtain ⟨ad168,e168,hx168_0,hx168_1,hx168_2⟩:=at_T116 HR1.out x17_1 p168 q168
       cases e168
       replace hx168_0:=(HB.out.cell (wL_ w _ hx168_0)).trans hx168_0
       replace hx168_1:=(HB.out.cell (wL_ w _ hx168_1)).trans hx168_1
       replace hx168_2:=(HB.out.cell (wL_ w _ hx168_2)).trans hx168_2
       replace p168:=eq_true p168
       replace q168:=eq_true q168
       go_upto_if 27 with (first | ((with_reducible refine gate_dst (N:=7) rfl ?_);refine box_event ?hg (N:=7) ?hd (cs:=#[.int .i64 0,.int .i64 0,.string (⟨#[]⟩ : ByteArray)]) (t:=116) ?hr ?_;(case hd=>rfl);(case hg=>rfl);(case hr=>first | (go_simp;done) | (go_simp;rfl));intro gb169 hg w13 hbox hb;have n0_:=aM_ (Kd.R_below (by exact rZ_ HO_5) hb);have n1_:=aM_ (bT_ (by exact bZ_ HB) hb);have n2_:=aM_ (hbox);have n3_:=aM_ ((by rw [hg];exact (bS_ (by exact bZ_ HB)) : w.heap.size ≤ gb169));have n4_:=aM_ ((by rw [hg];exact (bS_ (by exact bZ_ HB)) : w.heap.size ≤ gb169));clear HO_5;clear HB;have HO_5:=n0_;have HB:=n1_;have BK169:=n2_;have GW169:=n3_;have GE169:=n4_;clear n0_ n1_ n2_ n3_ n4_;clear hb hbox hg;have hcz14_0 : w13.cell? ⟨gb169,0,none⟩ = some (.int .i64 0):=(kC_ BK169.out 0).trans rfl;have hcz14_1 : w13.cell? ⟨gb169,1,none⟩ = some (.int .i64 0):=(kC_ BK169.out 1).trans rfl;have hcz14_2 : w13.cell? ⟨gb169,2,none⟩ = some (.string (⟨#[]⟩ : ByteArray)):=(kC_ BK169.out 2).trans rfl;have hfz14_0:=kF_ BK169.out 0;have hfz14_1:=kF_ BK169.out 1;have hfz14_2:=kF_ BK169.out 2) | ((with_reducible refine gate_store (t:=116) (p:=7) rfl ?_);refine store_event (t:=116) (p:=7) (v:=?vo_w15) (w1:=(((w13.setCell ⟨gb169,0,none⟩ (.int .i64 ((rd_T116 l1 x17_1).f0))).setCell ⟨gb169,1,none⟩ (.int .i64 ((rd_T116 l1 x17_1).f1))).setCell ⟨gb169,2,none⟩ (.string ((rd_T116 l1 x17_1).f2)))) ?hg ?ho ?hn ?hr ?_;(case ho=>rfl);(case hg=>rfl);(case hn=>rfl);(case hr=>first | (go_simp;done) | (go_simp;rfl));intro w15 hw;have n0_ : Aside0 (Kd.R (Kd.int .u8) 5 w15 w.heap.size (fun _=>True) u5 x5_1):=⟨(by rw [hw];exact (by (with_reducible repeat (first | apply rA_ | apply rN_ | apply rD_));exact Kd.R_mono (Kd.R_far (p:=⟨gb169,2,none⟩) (Kd.R_far (p:=⟨gb169,1,none⟩) (Kd.R_far (p:=⟨gb169,0,none⟩) (Kd.R_types HO_5.out BK169.out (by decide)) (fun _ hk=>hk.2) (.int .i64 ((rd_T116 l1 x17_1).f0))) (fun _ hk=>hk.2) (.int .i64 ((rd_T116 l1 x17_1).f1))) (fun _ hk=>hk.2) (.string ((rd_T116 l1 x17_1).f2))) (fun _ hk=>trivial)))⟩;have n1_ : Aside0 (w15.heap[gb169]? = some (.cells #[.int .i64 ((rd_T116 l1 x17_1).f0),.int .i64 ((rd_T116 l1 x17_1).f1),.string ((rd_T116 l1 x17_1).f2)] 116 (0,0))):=⟨(by rw [hw];exact (by (with_reducible repeat (first | refine kN_ ?_ _ | refine kD_ ?_ | refine kA_ ?_ _));refine kP_ (cs:=#[.int .i64 ((rd_T116 l1 x17_1).f0),.int .i64 ((rd_T116 l1 x17_1).f1),.string (⟨#[]⟩ : ByteArray)]) ?_ 2 _ rfl;(with_reducible repeat (first | refine kN_ ?_ _ | refine kD_ ?_ | refine kA_ ?_ _));refine kP_ (cs:=#[.int .i64 ((rd_T116 l1 x17_1).f0),.int .i64 0,.string (⟨#[]⟩ : ByteArray)]) ?_ 1 _ rfl;(with_reducible repeat (first | refine kN_ ?_ _ | refine kD_ ?_ | refine kA_ ?_ _));refine kP_ (cs:=#[.int .i64 0,.int .i64 0,.string (⟨#[]⟩ : ByteArray)]) ?_ 0 _ rfl;exact kZ_ BK169))⟩;have n2_ : Aside0 (Below w.heap.size w w15):=⟨(by rw [hw];exact (by exact bZ_ HB))⟩;clear hw;clear HO_5;clear BK169;clear HB;have HO_5:=n0_;have BK169:=n1_;have HB:=n2_;clear n0_ n1_ n2_;have hcz16_0 : w15.cell? ⟨gb169,0,none⟩ = some (.int .i64 ((rd_T116 l1 x17_1).f0)):=(kC_ BK169.out 0).trans rfl;have hcz16_1 : w15.cell? ⟨gb169,1,none⟩ = some (.int .i64 ((rd_T116 l1 x17_1).f1)):=(kC_ BK169.out 1).trans rfl;have hcz16_2 : w15.cell? ⟨gb169,2,none⟩ = some (.string ((rd_T116 l1 x17_1).f2)):=(kC_ BK169.out 2).trans rfl;have hfz16_0:=kF_ BK169.out 0;have hfz16_1:=kF_ BK169.out 1;have hfz16_2:=kF_ BK169.out 2;obtain ⟨Ao17,co17,eo17⟩:=Kd.R_slice HO_5.out;subst eo17) | ((with_reducible refine gate_callee (f:=99) rfl ?_);refine goesL_ (some 24) rfl rfl Try.func99 (by kernel_rfl) rfl #[.slice Ao17 x5_1.length co17,.int .i64 ((rd_T116 l1 x17_1).f0)] rfl (by (try simp only [mA_,mC_,mN_]);first | done | rfl | (simp only [lD_,lT_];rfl)) ?_;(with_reducible refine (impl_addU.calls k1 (fun k_=>some k_ = (.slice Ao17 x5_1.length co17 : Value).ownBlock) (.slice Ao17 x5_1.length co17) x5_1 ((rd_T116 l1 x17_1).f0) t170 w _ ?side1 ?side2 A11.out).mono ?_);(case side1=>exact bZ_ HB);(case side2=>exact Kd.R_tight rfl HO_5.out);rintro e w18 ⟨v171,rfl,ho0,hb,hkp⟩;refine ⟨_,rfl,?_⟩;have n0_:=aM_ (blk_kept (by exact kZ_ BK169) hkp (fun hs_=>(fun e_=>(Kd.R_ne HO_5.out BK169.out (by decide)) e_) hs_));have n1_:=aM_ (Kd.R_mono (ok':=fun k_=>True) ho0 (fun k_ hk_=>trivial));have n2_:=aM_ (hb);clear BK169;clear HB;clear HO_5;have BK169:=n0_;have HO172:=n1_;have HB:=n2_;clear n0_ n1_ n2_;(try clear hb);(try clear hkp);(try clear ho0);have hcz19_0 : w18.cell? ⟨gb169,0,none⟩ = some (.int .i64 ((rd_T116 l1 x17_1).f0)):=(kC_ BK169.out 0).trans rfl;have hcz19_1 : w18.cell? ⟨gb169,1,none⟩ = some (.int .i64 ((rd_T116 l1 x17_1).f1)):=(kC_ BK169.out 1).trans rfl;have hcz19_2 : w18.cell? ⟨gb169,2,none⟩ = some (.string ((rd_T116 l1 x17_1).f2)):=(kC_ BK169.out 2).trans rfl;have hfz19_0:=kF_ BK169.out 0;have hfz19_1:=kF_ BK169.out 1;have hfz19_2:=kF_ BK169.out 2))
       (try simp only [Act.put,sI_,sZ_,sS_])
       go_cut [27] (fun v27 wc=>∃ (kq : Nat) (x27_11 : Bool),v27 = .bool x27_11 ∧ Aside0 (impl_EncodeRow.j1 kq t170 l1 (l1.length : Int) x17_1 ((rd_T116 l1 x17_1).f0) x27_11 ((rd_T116 l1 x17_1).f0) ((rd_T116 l1 x17_1).f1) ((rd_T116 l1 x17_1).f2) = some r) ∧ Aside0 (kq ≤ k1) ∧ Aside0 (Kd.R (Kd.int .u8) 5 wc w.heap.size (fun _=>True) v171 t170) ∧ Aside0 (wc.heap[gb169]? = some (.cells #[.int .i64 ((rd_T116 l1 x17_1).f0),.int .i64 ((rd_T116 l1 x17_1).f1),.string ((rd_T116 l1 x17_1).f2)] 116 (0,0))) ∧ Aside0 (Below w.heap.size w wc))
       case first =>
        have H:=HC12.out
        clear HC12
        by_cases c20 : ((rd_T116 l1 x17_1).f0) = 1
        ·rw [if_pos c20] at H
         have c20b0 : (((rd_T116 l1 x17_1).f0) == 1) = true:=beq_iff_eq.mpr c20
         have c20b1 : (((rd_T116 l1 x17_1).f0) != 1) = false:=bne_eq_false_iff_eq.mpr c20
         clear c20
         (first | rw [c20b0] | (simp only [i64_w,i32_w];rw [c20b0]) | skip)
         have H':=aM_ H
         clear H
         go_wp2
         (first | go_meet | (refine Met.intro ?_;go_step;(repeat apply Exists.intro);refine ⟨?rel,?eq⟩;(case eq=>(try simp only [c20b0]);rfl)))
         case rel=>exact ⟨_,((((rd_T116 l1 x17_1).f0) == 1)),(by first | rfl | (simp;done) | (simp [*];done)),H', ⟨by have:=HK1.out;first | omega | exact Nat.le_refl _⟩,⟨by exact rZ_ HO172⟩,⟨by exact kZ_ BK169⟩,⟨by exact bZ_ HB⟩⟩
        ·rw [if_neg c20] at H
         have c20b0 : (((rd_T116 l1 x17_1).f0) == 1) = false:=beq_eq_false_iff_ne.mpr c20
         have c20b1 : (((rd_T116 l1 x17_1).f0) != 1) = true:=bne_iff_ne.mpr c20
         (first | rw [c20b0] | (simp only [i64_w,i32_w];rw [c20b0]) | skip)
         have H':=aM_ H
         clear H
         go_wp2
         (first | go_meet | (refine Met.intro ?_;go_step;(repeat apply Exists.intro);refine ⟨?rel,?eq⟩;(case eq=>(try simp only [c20b0]);(try simp only [c20b0]);rfl)))
         case rel=>exact ⟨_,((((rd_T116 l1 x17_1).f0) == 2)),(by first | rfl | (simp;done) | (simp [*];done)),H', ⟨by have:=HK1.out;first | omega | exact Nat.le_refl _⟩,⟨by exact rZ_ HO172⟩,⟨by exact kZ_ BK169⟩,⟨by exact bZ_ HB⟩⟩
       case rest =>
        clear HC12
        try clear c1
        try clear p1
        try clear q1
        try clear hx1
        try clear c2
        try clear p2
        try clear c3
        try clear c4
        try clear c8
        try clear c8b0
        try clear c9
        try clear c9b0
        try clear c10
        try clear c10b0
        try clear p16
        try clear q16
        try clear hx16
        try clear c20
        try clear c20b0
        try clear c20b1
        try clear hcz14_0
        try clear hcz14_1
        try clear hcz14_2
        try clear hcz16_0
        try clear hcz16_1
        try clear hcz16_2
        try clear hcz19_0
        try clear hcz19_1
        try clear hcz19_2
        try clear hfz14_0
        try clear hfz14_1
        try clear hfz14_2
        try clear hfz16_0
        try clear hfz16_1
        try clear hfz16_2
        try clear hfz19_0
        try clear hfz19_1
        try clear hfz19_2
        try clear hx168_0
        try clear hx168_1
        try clear hx168_2
        try clear p168
        try clear p2
        try clear q168
        obtain ⟨kq,x27_11,rfl,HA,HJ11,HO_5,BK169,HB⟩:=hcut
        cases kq with
        | zero=>exact absurd HA.out (by simp [impl_EncodeRow.j1])
        | succ kj11 =>
         have H:=HA.out
         clear HA
         simp only [impl_EncodeRow.j1] at H
         by_cases c21 : x27_11 = true
         ·subst c21
          have H1 : ((impl_addVar.f kj11 t170 ((rd_T116 l1 x17_1).f1)).bind fun t173=>(impl_EncodeRow.l0 kj11 t173 l1 (l1.length : Int) (wrap64 (x17_1 + 1)))) = some r:=by rw [if_pos rfl] at H;exact H
          clear H
          have H:=H1
          clear H1
          replace H:=oB_ H
          obtain ⟨t173,A220,H⟩:=H
          replace H : (impl_EncodeRow.l0 kj11 t173 l1 (l1.length : Int) (wrap64 (x17_1 + 1))) = some r:=H
          have A22:=aM_ A220
          clear A220
          have H':=aM_ H
          clear H
          have hcz23_0 : wc.cell? ⟨gb169,0,none⟩ = some (.int .i64 ((rd_T116 l1 x17_1).f0)):=(kC_ BK169.out 0).trans rfl
          have hcz23_1 : wc.cell? ⟨gb169,1,none⟩ = some (.int .i64 ((rd_T116 l1 x17_1).f1)):=(kC_ BK169.out 1).trans rfl
          have hcz23_2 : wc.cell? ⟨gb169,2,none⟩ = some (.string ((rd_T116 l1 x17_1).f2)):=(kC_ BK169.out 2).trans rfl
          have hfz23_0:=kF_ BK169.out 0
          have hfz23_1:=kF_ BK169.out 1
          have hfz23_2:=kF_ BK169.out 2
          obtain ⟨Ao24,co24,eo24⟩:=Kd.R_slice HO_5.out
          subst eo24
          go_wp2_with (first | ((with_reducible refine gate_callee (f:=100) rfl ?_);refine goesL_ (some 33) rfl rfl Try.func100 (by kernel_rfl) rfl #[.slice Ao24 t170.length co24,.int .i64 ((rd_T116 l1 x17_1).f1)] rfl (by (try simp only [mA_,mC_,mN_]);first | done | rfl | (simp only [lD_,lT_];rfl)) ?_;(with_reducible refine (impl_addVar.calls kj11 (fun k_=>some k_ = (.slice Ao24 t170.length co24 : Value).ownBlock) (.slice Ao24 t170.length co24) t170 ((rd_T116 l1 x17_1).f1) t173 w _ ?side1 ?side2 A22.out).mono ?_);(case side1=>exact bZ_ HB);(case side2=>exact Kd.R_tight rfl HO_5.out);rintro e w25 ⟨v174,rfl,ho0,hb,hkp⟩;refine ⟨_,rfl,?_⟩;have n0_:=aM_ (blk_kept (by exact kZ_ BK169) hkp (fun hs_=>(fun e_=>(Kd.R_ne HO_5.out BK169.out (by decide)) e_) hs_));have n1_:=aM_ (Kd.R_mono (ok':=fun k_=>True) ho0 (fun k_ hk_=>trivial));have n2_:=aM_ (hb);clear BK169;clear HB;clear HO_5;have BK169:=n0_;have HO175:=n1_;have HB:=n2_;clear n0_ n1_ n2_;(try clear hb);(try clear hkp);(try clear ho0)))
          go_roundg kj11
          case measure=>have:=HK1.out;have:=HJ11.out;omega
          case rel=>exact ⟨(t173),(wrap64 (x17_1 + 1)),(by first | rfl | (simp;done) | (simp [*];done)),H', ⟨by have:=HK1.out;have:=HJ11.out;omega⟩,⟨by exact rZ_ HO175⟩,⟨by exact bZ_ HB⟩⟩
         ·replace c21:=Bool.eq_false_iff.mpr c21
          subst c21
          have H1 : (if ((rd_T116 l1 x17_1).f0) = 3 then ((impl_addText.f kj11 t170 ((rd_T116 l1 x17_1).f2)).bind fun t176=>(impl_EncodeRow.l0 kj11 t176 l1 (l1.length : Int) (wrap64 (x17_1 + 1)))) else (if ((rd_T116 l1 x17_1).f0) = 4 then (if t170.length < 140737488355328 then (impl_EncodeRow.l0 kj11 (t170 ++ [(((rd_T116 l1 x17_1).f1)) % 256]) l1 (l1.length : Int) (wrap64 (x17_1 + 1))) else (none)) else (impl_EncodeRow.l0 kj11 t170 l1 (l1.length : Int) (wrap64 (x17_1 + 1))))) = some r:=by rw [if_neg (show ¬ (false = true) by decide)] at H;exact H
          clear H
          have H:=H1
          clear H1
          by_cases c26 : ((rd_T116 l1 x17_1).f0) = 3
          ·rw [if_pos c26] at H
           have c26b0 : (((rd_T116 l1 x17_1).f0) == 3) = true:=beq_iff_eq.mpr c26
           have c26b1 : (((rd_T116 l1 x17_1).f0) != 3) = false:=bne_eq_false_iff_eq.mpr c26
           clear c26
           replace H:=oB_ H
           obtain ⟨t176,A270,H⟩:=H
           replace H : (impl_EncodeRow.l0 kj11 t176 l1 (l1.length : Int) (wrap64 (x17_1 + 1))) = some r:=H
           have A27:=aM_ A270
           clear A270
           have H':=aM_ H
           clear H
           have hcz28_0 : wc.cell? ⟨gb169,0,none⟩ = some (.int .i64 ((rd_T116 l1 x17_1).f0)):=(kC_ BK169.out 0).trans rfl
           have hcz28_1 : wc.cell? ⟨gb169,1,none⟩ = some (.int .i64 ((rd_T116 l1 x17_1).f1)):=(kC_ BK169.out 1).trans rfl
           have hcz28_2 : wc.cell? ⟨gb169,2,none⟩ = some (.string ((rd_T116 l1 x17_1).f2)):=(kC_ BK169.out 2).trans rfl
           have hfz28_0:=kF_ BK169.out 0
           have hfz28_1:=kF_ BK169.out 1
           have hfz28_2:=kF_ BK169.out 2
           obtain ⟨Ao29,co29,eo29⟩:=Kd.R_slice HO_5.out
           subst eo29
           go_wp2_with (first | ((with_reducible refine gate_callee (f:=101) rfl ?_);refine goesL_ (some 39) rfl rfl Try.func101 (by kernel_rfl) rfl #[.slice Ao29 t170.length co29,.string ((rd_T116 l1 x17_1).f2)] rfl (by (try simp only [mA_,mC_,mN_]);first | done | rfl | (simp only [lD_,lT_];rfl)) ?_;(with_reducible refine (impl_addText.calls kj11 (fun k_=>some k_ = (.slice Ao29 t170.length co29 : Value).ownBlock) (.slice Ao29 t170.length co29) t170 ((rd_T116 l1 x17_1).f2) t176 w _ ?side1 ?side2 A27.out).mono ?_);(case side1=>exact bZ_ HB);(case side2=>exact Kd.R_tight rfl HO_5.out);rintro e w30 ⟨v177,rfl,ho0,hb,hkp⟩;refine ⟨_,rfl,?_⟩;have n0_:=aM_ (blk_kept (by exact kZ_ BK169) hkp (fun hs_=>(fun e_=>(Kd.R_ne HO_5.out BK169.out (by decide)) e_) hs_));have n1_:=aM_ (Kd.R_mono (ok':=fun k_=>True) ho0 (fun k_ hk_=>trivial));have n2_:=aM_ (hb);clear BK169;clear HB;clear HO_5;have BK169:=n0_;have HO178:=n1_;have HB:=n2_;clear n0_ n1_ n2_;(try clear hb);(try clear hkp);(try clear ho0)))
           go_roundg kj11
           case measure=>have:=HK1.out;have:=HJ11.out;omega
           case rel=>exact ⟨(t176),(wrap64 (x17_1 + 1)),(by first | rfl | (simp;done) | (simp [*];done)),H', ⟨by have:=HK1.out;have:=HJ11.out;omega⟩,⟨by exact rZ_ HO178⟩,⟨by exact bZ_ HB⟩⟩
          ·rw [if_neg c26] at H
           have c26b0 : (((rd_T116 l1 x17_1).f0) == 3) = false:=beq_eq_false_iff_ne.mpr c26
           have c26b1 : (((rd_T116 l1 x17_1).f0) != 3) = true:=bne_iff_ne.mpr c26
           by_cases c31 : ((rd_T116 l1 x17_1).f0) = 4
           ·rw [if_pos c31] at H
            have c31b0 : (((rd_T116 l1 x17_1).f0) == 4) = true:=beq_iff_eq.mpr c31
            have c31b1 : (((rd_T116 l1 x17_1).f0) != 4) = false:=bne_eq_false_iff_eq.mpr c31
            clear c31
            by_cases c32 : t170.length < 140737488355328
            ·rw [if_pos c32] at H
             have LMc32:=aM_ c32
             clear c32
             obtain ⟨y179,hy179⟩ : ∃ y_ : List Int,y_ = (t170 ++ [(((rd_T116 l1 x17_1).f1)) % 256]):=⟨_,rfl⟩
             replace H : (impl_EncodeRow.l0 kj11 y179 l1 (l1.length : Int) (wrap64 (x17_1 + 1))) = some r:=by first | (rw [hy179];with_reducible exact H) | (have H2_:=(Option.bind_some _ _).symm.trans H;rw [hy179];with_reducible exact H2_) | (have H2_:=(Option.bind_some _ _).symm.trans H;with_reducible exact H2_) | with_reducible exact H | (rw [hy179];exact H) | exact H
             have Ny179:=aM_ hy179
             clear hy179
             have H':=aM_ H
             clear H
             have hcz33_0 : wc.cell? ⟨gb169,0,none⟩ = some (.int .i64 ((rd_T116 l1 x17_1).f0)):=(kC_ BK169.out 0).trans rfl
             have hcz33_1 : wc.cell? ⟨gb169,1,none⟩ = some (.int .i64 ((rd_T116 l1 x17_1).f1)):=(kC_ BK169.out 1).trans rfl
             have hcz33_2 : wc.cell? ⟨gb169,2,none⟩ = some (.string ((rd_T116 l1 x17_1).f2)):=(kC_ BK169.out 2).trans rfl
             have hfz33_0:=kF_ BK169.out 0
             have hfz33_1:=kF_ BK169.out 1
             have hfz33_2:=kF_ BK169.out 2
             go_wp2_with (first | ((with_reducible refine gate_builtin (b:=.append) (xs:=#[.tmp 42,.tmp 46]) rfl ?_);at_builtin;refine Kd.R_append (Kd.int .u8) (w0:=w) w.heap.size rfl (.tmp 42) (.tmp 46) 27 5 (.int .u8 0) 1 rfl Try.underlying27 info5 rfl (by decide) (by omega) v171 t170 ((((rd_T116 l1 x17_1).f1)) % 256) [.int .u8 ((((rd_T116 l1 x17_1).f1)) % 256)] (fun _=>True) (fun _=>False) rfl rfl ?aP (fun _ hk=>hk.elim) ?aF ?aO ?aB ?aS ?aL ?_;(case aP=>exact rfl);(case aB=>exact (by exact bZ_ HB));(case aF=>exact (fun _ _=>trivial));(case aO=>exact (by exact rZ_ HO_5));(case aS=>exact (bS_ (by exact bZ_ HB)));(case aL=>have:=LMc32.out;omega);intro v180 w34 ho hb hg hat;rw [← Ny179.out] at ho;have n0_:=aM_ (blk_grown (g:=gb169) (o:=.cells #[.int .i64 ((rd_T116 l1 x17_1).f0),.int .i64 ((rd_T116 l1 x17_1).f1),.string ((rd_T116 l1 x17_1).f2)] 116 (0,0)) (by exact kZ_ BK169) hg (Kd.R_ne HO_5.out BK169.out (by decide)));have n1_:=aM_ (hb);have n2_:=aM_ (ho);clear BK169;clear HB;clear HO_5;have BK169:=n0_;have HB:=n1_;have HO181:=n2_;clear n0_ n1_ n2_;clear ho hb hg hat))
             go_roundg kj11
             case measure=>have:=HK1.out;have:=HJ11.out;omega
             case rel=>exact ⟨(y179),(wrap64 (x17_1 + 1)),(by first | rfl | (simp;done) | (simp [*];done)),H', ⟨by have:=HK1.out;have:=HJ11.out;omega⟩,⟨by exact rZ_ HO181⟩,⟨by exact bZ_ HB⟩⟩
            ·rw [if_neg c32] at H
             exact absurd H (by simp)
           ·rw [if_neg c31] at H
            have c31b0 : (((rd_T116 l1 x17_1).f0) == 4) = false:=beq_eq_false_iff_ne.mpr c31
            have c31b1 : (((rd_T116 l1 x17_1).f0) != 4) = true:=bne_iff_ne.mpr c31
            have H':=aM_ H
            clear H
            go_wp2
            go_roundg kj11
            case measure=>have:=HK1.out;have:=HJ11.out;omega
            case rel=>exact ⟨(t170),(wrap64 (x17_1 + 1)),(by first | rfl | (simp;done) | (simp [*];done)),H', ⟨by have:=HK1.out;have:=HJ11.out;omega⟩,⟨by exact rZ_ HO_5⟩,⟨by exact bZ_ HB⟩⟩
      ·rw [if_neg c10] at H
       exact absurd H (by simp)
     ·rw [if_neg c9] at H
      exact absurd H (by simp)
    ·rw [if_neg c8] at H
     have c8b0 : decide (x17_1 < (l1.length : Int)) = false:=decide_eq_false c8
     clear c8
     replace H:=oB_ H
     obtain ⟨t165,A350,H⟩:=H
     replace H : (some t165) = some r:=H
     have A35:=aM_ A350
     clear A350
     obtain rfl:=Option.some.inj H
     obtain ⟨Ao36,co36,eo36⟩:=Kd.R_slice HO_5.out
     subst eo36
     go_wp2_with (first | ((with_reducible refine gate_callee (f:=102) rfl ?_);refine goesL_ (some 50) rfl rfl Try.func102 (by kernel_rfl) rfl #[.slice Ao36 x5_1.length co36] rfl (by (try simp only [mA_,mC_,mN_]);first | done | rfl | (simp only [lD_,lT_];rfl)) ?_;(with_reducible refine (impl_addSum.calls k1 (fun k_=>some k_ = (.slice Ao36 x5_1.length co36 : Value).ownBlock) (.slice Ao36 x5_1.length co36) x5_1 t165 w _ ?side1 ?side2 A35.out).mono ?_);(case side1=>exact bZ_ HB);(case side2=>exact Kd.R_tight rfl HO_5.out);rintro e w37 ⟨v166,rfl,ho0,hb,hkp⟩;refine ⟨_,rfl,?_⟩;have n0_:=aM_ (Kd.R_mono (ok':=fun k_=>True) ho0 (fun k_ hk_=>trivial));have n1_:=aM_ (hb);clear HB;clear HO_5;have HO167:=n0_;have HB:=n1_;clear n0_ n1_;(try clear hb);(try clear hkp);(try clear ho0)))
     go_ret
     exact ⟨_,by first | rfl | (simp [errW_none,errW_some] <;> rfl) | (simp [*, errW_none,errW_some] <;> rfl),by exact rZ_ HO167,by exact bZ_ HB⟩
 ·replace c4:=Bool.eq_false_iff.mpr c4
  subst c4
  have H1 : (some ([] : List Int)) = some r:=by rw [if_neg (show ¬ (false = true) by decide)] at H;exact H
  clear H
  have H:=H1
  clear H1
  obtain rfl:=Option.some.inj H
  go_enter Try.func39,Try.ntmps39
  go_wp2_with (first | ((with_reducible refine gate_callee (f:=46) rfl ?_);refine goesL_ (some 10) rfl rfl Try.func46 (by kernel_rfl) rfl #[.slice A0 l0.length c0,.slice A1 l1.length c1] rfl (by (try simp only [mA_,mC_,mN_]);first | done | rfl | (simp only [lD_,lT_];rfl)) ?_;(with_reducible refine (impl_RowOk.calls k _ _ l0 _ _ l1 false _ ?side1 ?side2 ?side3 ?side4 A3.out).mono ?_);(case side1=>repeat (first | exact HR0.out | (with_reducible refine cA_ ?_ _) | (with_reducible refine cN_ ?_ _) | (with_reducible refine cD_ ?_)));(case side2=>exact HC0.out);(case side3=>repeat (first | exact HR1.out | (with_reducible refine cA_ ?_ _) | (with_reducible refine cN_ ?_ _) | (with_reducible refine cD_ ?_)));(case side4=>exact HC1.out);rintro e w38 ⟨rfl,hb⟩;refine ⟨_,rfl,?_⟩;have n0_:=aM_ (bT_ (by exact bZ_ HB) hb);clear HB;have HB:=n0_;clear n0_;(try clear hb);(try clear hb2);(try clear hk);(try clear hi)))
  go_ret
  exact ⟨_,by first | rfl | (simp [errW_none,errW_some] <;> rfl) | (simp [*, errW_none,errW_some] <;> rfl),by first | exact Kd.R_nil _ _ _ _ _ | exact Kd.N_nil _ _ _ _ _ | exact Kd.V_nil _ _ _ _ _ | exact Kd.Q_nil _ _ _ _ _ | exact Kd.S_nil _ _ _ _ _,by exact bZ_ HB⟩
mutual
def impl_GetU.l0 : Nat → List Int → Int → Int → Int → Option (Int × Int × Bool)
 | 0,_,_,_,_=>none
 | k + 1,x0,x1,x7,x8=>if x8 < 3 then (if x1 ≥ 0 then (impl_GetU.j1 k x0 x1 x7 x8 (decide (x1 < (wrap64 ((x0.length : Int) - x8))))) else (impl_GetU.j1 k x0 x1 x7 x8 false)) else (impl_GetU.j1 k x0 x1 x7 x8 false)
def impl_GetU.j1 : Nat → List Int → Int → Int → Int → Bool → Option (Int × Int × Bool)
 | 0,_,_,_,_,_=>none
 | k + 1,x0,x1,x7,x8,x23=>if x23 = true then (if 0 ≤ (wrap64 (x1 + x8)) then (if (wrap64 (x1 + x8)) < (x0.length : Int) then (if 0 ≤ (wrap64 (7 * x8)) then (if (wrap64 (rd x0 (wrap64 (x1 + x8)))) ≥ 128 then (impl_GetU.l0 k x0 x1 (wrap64 (x7 + (shl .i64 (Int.tmod (wrap64 (rd x0 (wrap64 (x1 + x8)))) 128) (wrap64 (7 * x8))))) (wrap64 (x8 + 1))) else (if (wrap64 (rd x0 (wrap64 (x1 + x8)))) = 0 then (if x8 > 0 then (some (0,0,false)) else (if (wrap64 (x7 + (shl .i64 (Int.tmod (wrap64 (rd x0 (wrap64 (x1 + x8)))) 128) (wrap64 (7 * x8))))) > 1000000 then (some (0,0,false)) else (some (wrap64 (x7 + (shl .i64 (Int.tmod (wrap64 (rd x0 (wrap64 (x1 + x8)))) 128) (wrap64 (7 * x8)))),wrap64 ((wrap64 (x1 + x8)) + 1),true)))) else (if (wrap64 (x7 + (shl .i64 (Int.tmod (wrap64 (rd x0 (wrap64 (x1 + x8)))) 128) (wrap64 (7 * x8))))) > 1000000 then (some (0,0,false)) else (some (wrap64 (x7 + (shl .i64 (Int.tmod (wrap64 (rd x0 (wrap64 (x1 + x8)))) 128) (wrap64 (7 * x8)))),wrap64 ((wrap64 (x1 + x8)) + 1),true))))) else (none)) else (none)) else (none)) else (some (0,0,false))
end
def impl_GetU.f (k : Nat) (l0 : List Int) (a1 : Int) : Option (Int × Int × Bool):=impl_GetU.l0 k l0 a1 0 0
theorem impl_GetU.mono_l : ∀ k,(∀ y0 y1 y2 y3,LeO (impl_GetU.l0 k y0 y1 y2 y3) (impl_GetU.l0 (k + 1) y0 y1 y2 y3)) ∧ (∀ y0 y1 y2 y3 y4,LeO (impl_GetU.j1 k y0 y1 y2 y3 y4) (impl_GetU.j1 (k + 1) y0 y1 y2 y3 y4))
 | 0=>⟨fun _ _ _ _ r h=>by simp [impl_GetU.l0] at h,fun _ _ _ _ _ r h=>by simp [impl_GetU.j1] at h⟩
 | k + 1=>by
  obtain ⟨ih0,ih1⟩:=impl_GetU.mono_l k
  refine ⟨?_,?_⟩
  ·intro y0 y1 y2 y3
   unfold impl_GetU.l0
   repeat' first
   | (with_reducible exact ih0 _ _ _ _)
   | (with_reducible exact ih1 _ _ _ _ _)
   | (with_reducible exact LeO.refl _)
   | (with_reducible exact LeO.none _)
   | (with_reducible refine LeO.ite ?_ ?_)
   | (with_reducible refine LeO.bind ?_ (fun _=>?_))
   | exact ih0 _ _ _ _
   | exact ih1 _ _ _ _ _
   | exact LeO.none _
   | refine LeO.ite ?_ ?_
   | refine LeO.bind ?_ (fun _=>?_)
  ·intro y0 y1 y2 y3 y4
   unfold impl_GetU.j1
   repeat' first
   | (with_reducible exact ih0 _ _ _ _)
   | (with_reducible exact ih1 _ _ _ _ _)
   | (with_reducible exact LeO.refl _)
   | (with_reducible exact LeO.none _)
   | (with_reducible refine LeO.ite ?_ ?_)
   | (with_reducible refine LeO.bind ?_ (fun _=>?_))
   | exact ih0 _ _ _ _
   | exact ih1 _ _ _ _ _
   | exact LeO.none _
   | refine LeO.ite ?_ ?_
   | refine LeO.bind ?_ (fun _=>?_)
theorem impl_GetU.mono : ∀ a0 a1 k,LeO (impl_GetU.f k a0 a1) (impl_GetU.f (k + 1) a0 a1):=by
 intro a0 a1 k
 obtain ⟨ih0,ih1⟩:=impl_GetU.mono_l k
 unfold impl_GetU.f
 repeat' first
   | (with_reducible exact ih0 _ _ _ _)
   | (with_reducible exact ih1 _ _ _ _ _)
   | (with_reducible exact LeO.refl _)
   | (with_reducible exact LeO.none _)
   | (with_reducible refine LeO.ite ?_ ?_)
   | (with_reducible refine LeO.bind ?_ (fun _=>?_))
   | exact ih0 _ _ _ _
   | exact ih1 _ _ _ _ _
   | exact LeO.none _
   | refine LeO.ite ?_ ?_
   | refine LeO.bind ?_ (fun _=>?_)
set_option maxHeartbeats 8000000 in
set_option maxRecDepth 100000 in
theorem impl_GetU.calls (k : Nat) (A0 : Option Addr) (c0 : Nat) (l0 : List Int) (a1 : Int) (r1 : Int) (r2 : Int) (r3 : Bool) (w : World) (hr0 : Kd.C (Kd.int .u8) w A0 l0.length l0) (hc0 : l0.length ≤ c0) (h : impl_GetU.f k l0 a1 = some (r1,r2,r3)) :
  Calls Try.prog 78 #[.slice A0 l0.length c0,.int .i64 a1] w fun e w'=>e = .returned (.tuple #[.int .i64 r1,.int .i64 r2,.bool r3]) ∧ Drawn0 w w':=by
 have HR0:=aM_ hr0
 have HC0:=aM_ hc0
 clear hr0 hc0
 have H : (impl_GetU.l0 k l0 a1 0 0) = some (r1,r2,r3):=h
 clear h
 have H':=aM_ H
 clear H
 go_enter Try.func78,Try.ntmps78
 go_wp2
 (try simp only [Act.put,sI_,sS_,sZ_])
 go_loopg [7,8] k (fun kq v7 v8 w'=>∃ (x7_1 : Int) (x8_1 : Int),v7 = .int .i64 x7_1 ∧ v8 = .int .i64 x8_1 ∧ Aside0 (impl_GetU.l0 kq l0 a1 x7_1 x8_1 = some (r1,r2,r3)) ∧ Aside0 (kq ≤ k) ∧ Drawn0 w w')
 case atStart=>exact ⟨(0),(0),(by first | rfl | (simp;done) | (simp [*];done)),(by first | rfl | (simp;done) | (simp [*];done)),H', ⟨Nat.le_refl _⟩,by repeat (first | exact Drawn0.refl _ | apply Drawn0.step)⟩
 case round =>
  clear H'
  try clear p2
  obtain ⟨x7_1,x8_1,rfl,rfl,HA,HK1,⟨m1,rfl⟩⟩:=hrel
  cases gk with
  | zero=>exact absurd HA.out (by simp [impl_GetU.l0])
  | succ k1 =>
   have H:=HA.out
   clear HA
   simp only [impl_GetU.l0] at H
   have HC3:=aM_ H
   clear H
   go_upto_region 3 with (fail)
   go_cut [23] (fun v23 wc=>∃ (kq : Nat) (x23_2 : Bool),v23 = .bool x23_2 ∧ Aside0 (impl_GetU.j1 kq l0 a1 x7_1 x8_1 x23_2 = some (r1,r2,r3)) ∧ Aside0 (kq ≤ k1) ∧ Drawn0 w wc)
   case first =>
    have H:=HC3.out
    clear HC3
    by_cases c4 : x8_1 < 3
    ·rw [if_pos c4] at H
     have c4b0 : decide (x8_1 < 3) = true:=decide_eq_true c4
     clear c4
     (first | rw [c4b0] | (simp only [i64_w,i32_w];rw [c4b0]) | skip)
     by_cases c5 : a1 ≥ 0
     ·rw [if_pos c5] at H
      have c5b0 : decide (0 ≤ a1) = true:=decide_eq_true c5
      clear c5
      have H':=aM_ H
      clear H
      go_wp2
      (first | go_meet | (refine Met.intro ?_;go_step;(repeat apply Exists.intro);refine ⟨?rel,?eq⟩;(case eq=>(try simp only [c20b0]);(try simp only [c20b0]);(try simp only [c4b0]);rfl)))
      case rel=>exact ⟨_,(decide (a1 < (wrap64 ((l0.length : Int) - x8_1)))),(by first | rfl | (simp;done) | (simp [*];done)),H', ⟨by have:=HK1.out;first | omega | exact Nat.le_refl _⟩,by repeat (first | exact Drawn0.refl _ | apply Drawn0.step)⟩
     ·rw [if_neg c5] at H
      have c5b0 : decide (0 ≤ a1) = false:=decide_eq_false c5
      clear c5
      have H':=aM_ H
      clear H
      go_wp2
      (first | go_meet | (refine Met.intro ?_;go_step;(repeat apply Exists.intro);refine ⟨?rel,?eq⟩;(case eq=>(try simp only [c20b0]);(try simp only [c20b0]);(try simp only [c4b0]);rfl)))
      case rel=>exact ⟨_,(false),(by first | rfl | (simp;done) | (simp [*];done)),H', ⟨by have:=HK1.out;first | omega | exact Nat.le_refl _⟩,by repeat (first | exact Drawn0.refl _ | apply Drawn0.step)⟩
    ·rw [if_neg c4] at H
     have c4b0 : decide (x8_1 < 3) = false:=decide_eq_false c4
     clear c4
     (first | rw [c4b0] | (simp only [i64_w,i32_w];rw [c4b0]) | skip)
     have H':=aM_ H
     clear H
     go_wp2
     (first | go_meet | (refine Met.intro ?_;go_step;(repeat apply Exists.intro);refine ⟨?rel,?eq⟩;(case eq=>(try simp only [c20b0]);(try simp only [c4b0]);(try simp only [c4b0]);rfl)))
     case rel=>exact ⟨_,(false),(by first | rfl | (simp;done) | (simp [*];done)),H', ⟨by have:=HK1.out;first | omega | exact Nat.le_refl _⟩,by repeat (first | exact Drawn0.refl _ | apply Drawn0.step)⟩
   case rest =>
    clear HC3
    try clear c2
    try clear p2
    try clear c4
    try clear c4b0
    try clear c5
    try clear c5b0
    try clear p2
    obtain ⟨kq,x23_2,rfl,HA,HJ2,⟨mc2,rfl⟩⟩:=hcut
    cases kq with
    | zero=>exact absurd HA.out (by simp [impl_GetU.j1])
    | succ kj2 =>
     have H:=HA.out
     clear HA
     simp only [impl_GetU.j1] at H
     by_cases c6 : x23_2 = true
     ·subst c6
      have H1 : (if 0 ≤ (wrap64 (a1 + x8_1)) then (if (wrap64 (a1 + x8_1)) < (l0.length : Int) then (if 0 ≤ (wrap64 (7 * x8_1)) then (if (wrap64 (rd l0 (wrap64 (a1 + x8_1)))) ≥ 128 then (impl_GetU.l0 kj2 l0 a1 (wrap64 (x7_1 + (shl .i64 (Int.tmod (wrap64 (rd l0 (wrap64 (a1 + x8_1)))) 128) (wrap64 (7 * x8_1))))) (wrap64 (x8_1 + 1))) else (if (wrap64 (rd l0 (wrap64 (a1 + x8_1)))) = 0 then (if x8_1 > 0 then (some (0,0,false)) else (if (wrap64 (x7_1 + (shl .i64 (Int.tmod (wrap64 (rd l0 (wrap64 (a1 + x8_1)))) 128) (wrap64 (7 * x8_1))))) > 1000000 then (some (0,0,false)) else (some (wrap64 (x7_1 + (shl .i64 (Int.tmod (wrap64 (rd l0 (wrap64 (a1 + x8_1)))) 128) (wrap64 (7 * x8_1)))),wrap64 ((wrap64 (a1 + x8_1)) + 1),true)))) else (if (wrap64 (x7_1 + (shl .i64 (Int.tmod (wrap64 (rd l0 (wrap64 (a1 + x8_1)))) 128) (wrap64 (7 * x8_1))))) > 1000000 then (some (0,0,false)) else (some (wrap64 (x7_1 + (shl .i64 (Int.tmod (wrap64 (rd l0 (wrap64 (a1 + x8_1)))) 128) (wrap64 (7 * x8_1)))),wrap64 ((wrap64 (a1 + x8_1)) + 1),true))))) else (none)) else (none)) else (none)) = some (r1,r2,r3):=by rw [if_pos rfl] at H;exact H
      clear H
      have H:=H1
      clear H1
      obtain ⟨ji7,hji7⟩ : ∃ j_ : Int,(wrap64 (a1 + x8_1)) = j_:=⟨_,rfl⟩
      replace H : (if 0 ≤ (ji7) then (if (ji7) < (l0.length : Int) then (if 0 ≤ (wrap64 (7 * x8_1)) then (if (wrap64 (rd l0 (ji7))) ≥ 128 then (impl_GetU.l0 kj2 l0 a1 (wrap64 (x7_1 + (shl .i64 (Int.tmod (wrap64 (rd l0 (ji7))) 128) (wrap64 (7 * x8_1))))) (wrap64 (x8_1 + 1))) else (if (wrap64 (rd l0 (ji7))) = 0 then (if x8_1 > 0 then (some (0,0,false)) else (if (wrap64 (x7_1 + (shl .i64 (Int.tmod (wrap64 (rd l0 (ji7))) 128) (wrap64 (7 * x8_1))))) > 1000000 then (some (0,0,false)) else (some (wrap64 (x7_1 + (shl .i64 (Int.tmod (wrap64 (rd l0 (ji7))) 128) (wrap64 (7 * x8_1)))),wrap64 ((ji7) + 1),true)))) else (if (wrap64 (x7_1 + (shl .i64 (Int.tmod (wrap64 (rd l0 (ji7))) 128) (wrap64 (7 * x8_1))))) > 1000000 then (some (0,0,false)) else (some (wrap64 (x7_1 + (shl .i64 (Int.tmod (wrap64 (rd l0 (ji7))) 128) (wrap64 (7 * x8_1)))),wrap64 ((ji7) + 1),true))))) else (none)) else (none)) else (none)) = some (r1,r2,r3):=by first | (rw [hji7] at H;exact H) | (simp only [hji7] at H ⊢;exact H)
      have hji7w : (IntKind.i64.wrap (a1 + x8_1)) = ji7:=(i64_w _).trans hji7
      by_cases c8 : 0 ≤ (ji7)
      ·rw [if_pos c8] at H
       have c8b0 : decide (0 ≤ (ji7)) = true:=decide_eq_true c8
       clear c8
       by_cases c9 : (ji7) < (l0.length : Int)
       ·rw [if_pos c9] at H
        have c9b0 : decide ((ji7) < (l0.length : Int)) = true:=decide_eq_true c9
        clear c9
        obtain ⟨ji10,hji10⟩ : ∃ j_ : Int,(wrap64 (7 * x8_1)) = j_:=⟨_,rfl⟩
        replace H : (if 0 ≤ (ji10) then (if (wrap64 (rd l0 (ji7))) ≥ 128 then (impl_GetU.l0 kj2 l0 a1 (wrap64 (x7_1 + (shl .i64 (Int.tmod (wrap64 (rd l0 (ji7))) 128) (ji10)))) (wrap64 (x8_1 + 1))) else (if (wrap64 (rd l0 (ji7))) = 0 then (if x8_1 > 0 then (some (0,0,false)) else (if (wrap64 (x7_1 + (shl .i64 (Int.tmod (wrap64 (rd l0 (ji7))) 128) (ji10)))) > 1000000 then (some (0,0,false)) else (some (wrap64 (x7_1 + (shl .i64 (Int.tmod (wrap64 (rd l0 (ji7))) 128) (ji10))),wrap64 ((ji7) + 1),true)))) else (if (wrap64 (x7_1 + (shl .i64 (Int.tmod (wrap64 (rd l0 (ji7))) 128) (ji10)))) > 1000000 then (some (0,0,false)) else (some (wrap64 (x7_1 + (shl .i64 (Int.tmod (wrap64 (rd l0 (ji7))) 128) (ji10))),wrap64 ((ji7) + 1),true))))) else (none)) = some (r1,r2,r3):=by first | (rw [hji10] at H;exact H) | (simp only [hji10] at H ⊢;exact H)
        have hji10w : (IntKind.i64.wrap (7 * x8_1)) = ji10:=(i64_w _).trans hji10
        by_cases c11 : 0 ≤ (ji10)
        ·rw [if_pos c11] at H
         have c11b0:=eq_true c11
         have c11b1 : decide (0 ≤ (ji10)) = true:=decide_eq_true c11
         clear c11
         obtain ⟨ji12,hji12⟩ : ∃ j_ : Int,(shl .i64 (Int.tmod (wrap64 (rd l0 (ji7))) 128) (ji10)) = j_:=⟨_,rfl⟩
         replace H : (if (wrap64 (rd l0 (ji7))) ≥ 128 then (impl_GetU.l0 kj2 l0 a1 (wrap64 (x7_1 + (ji12))) (wrap64 (x8_1 + 1))) else (if (wrap64 (rd l0 (ji7))) = 0 then (if x8_1 > 0 then (some (0,0,false)) else (if (wrap64 (x7_1 + (ji12))) > 1000000 then (some (0,0,false)) else (some (wrap64 (x7_1 + (ji12)),wrap64 ((ji7) + 1),true)))) else (if (wrap64 (x7_1 + (ji12))) > 1000000 then (some (0,0,false)) else (some (wrap64 (x7_1 + (ji12)),wrap64 ((ji7) + 1),true))))) = some (r1,r2,r3):=by first | (rw [hji12] at H;exact H) | (simp only [hji12] at H ⊢;exact H)
         have hji12_ : (IntKind.i64.wrap ((Int.tmod (wrap64 (rd l0 (ji7))) 128) * 2 ^ min (ji10).toNat 64)) = ji12:=hji12
         have hji12z : (ji10) ≤ 64 → (IntKind.i64.wrap ((Int.tmod (wrap64 (rd l0 (ji7))) 128) * 2 ^ (ji10).toNat)) = ji12:=shl_small hji12
         have hji12y : (wrap64 ((Int.tmod (wrap64 (rd l0 (ji7))) 128) * 2 ^ min (ji10).toNat 64)) = ji12:=(i64_w _).symm.trans hji12_
         have hji12x : (ji10) ≤ 64 → (wrap64 ((Int.tmod (wrap64 (rd l0 (ji7))) 128) * 2 ^ (ji10).toNat)) = ji12:=fun h_=>(i64_w _).symm.trans (hji12z h_)
         by_cases c13 : (wrap64 (rd l0 (ji7))) ≥ 128
         ·rw [if_pos c13] at H
          have c13b0 : decide (128 ≤ (wrap64 (rd l0 (ji7)))) = true:=decide_eq_true c13
          clear c13
          have H':=aM_ H
          clear H
          have p182 : 0 ≤ ((ji7) : Int):=oT_ (by first | (with_reducible assumption) | assumption)
          have q182 : (ji7) < (l0.length : Int):=oT_ (by first | (with_reducible assumption) | assumption)
          obtain ⟨ad182,e182,hx182_0⟩:=Kd.at_int HR0.out (ji7) p182 q182
          cases e182
          replace p182:=eq_true p182
          replace q182:=eq_true q182
          go_wp2
          go_roundg kj2
          case measure=>have:=HK1.out;have:=HJ2.out;omega
          case rel=>exact ⟨(wrap64 (x7_1 + (ji12))),(wrap64 (x8_1 + 1)),(by first | rfl | (simp;done) | (simp only [← hji12] <;> (first | rfl | simp)) | (simp [*];done)),(by first | rfl | (simp;done) | (simp [*];done)),H', ⟨by have:=HK1.out;have:=HJ2.out;omega⟩,by repeat (first | exact Drawn0.refl _ | apply Drawn0.step)⟩
         ·rw [if_neg c13] at H
          have c13b0 : decide (128 ≤ (wrap64 (rd l0 (ji7)))) = false:=decide_eq_false c13
          clear c13
          by_cases c14 : (wrap64 (rd l0 (ji7))) = 0
          ·rw [if_pos c14] at H
           have c14b0 : ((wrap64 (rd l0 (ji7))) == 0) = true:=beq_iff_eq.mpr c14
           have c14b1 : ((wrap64 (rd l0 (ji7))) != 0) = false:=bne_eq_false_iff_eq.mpr c14
           clear c14
           by_cases c15 : x8_1 > 0
           ·rw [if_pos c15] at H
            have c15b0 : decide (0 < x8_1) = true:=decide_eq_true c15
            clear c15
            simp only [Option.some.injEq,Prod.mk.injEq] at H
            obtain ⟨rfl,rfl,rfl⟩:=H
            have p182 : 0 ≤ ((ji7) : Int):=oT_ (by first | (with_reducible assumption) | assumption)
            have q182 : (ji7) < (l0.length : Int):=oT_ (by first | (with_reducible assumption) | assumption)
            obtain ⟨ad182,e182,hx182_0⟩:=Kd.at_int HR0.out (ji7) p182 q182
            cases e182
            replace p182:=eq_true p182
            replace q182:=eq_true q182
            go_wp2
            go_ret3
            exact ⟨by first | rfl | (simp;done) | (simp only [← hji7,← hji10,← hji12] <;> (first | rfl | simp)) | (simp [*];done),by repeat (first | exact Drawn0.refl _ | apply Drawn0.step)⟩
           ·rw [if_neg c15] at H
            have c15b0 : decide (0 < x8_1) = false:=decide_eq_false c15
            clear c15
            by_cases c16 : (wrap64 (x7_1 + (ji12))) > 1000000
            ·rw [if_pos c16] at H
             have c16b0 : decide (1000000 < (wrap64 (x7_1 + (ji12)))) = true:=decide_eq_true c16
             clear c16
             simp only [Option.some.injEq,Prod.mk.injEq] at H
             obtain ⟨rfl,rfl,rfl⟩:=H
             have p182 : 0 ≤ ((ji7) : Int):=oT_ (by first | (with_reducible assumption) | assumption)
             have q182 : (ji7) < (l0.length : Int):=oT_ (by first | (with_reducible assumption) | assumption)
             obtain ⟨ad182,e182,hx182_0⟩:=Kd.at_int HR0.out (ji7) p182 q182
             cases e182
             replace p182:=eq_true p182
             replace q182:=eq_true q182
             go_wp2
             go_ret3
             exact ⟨by first | rfl | (simp;done) | (simp only [← hji7,← hji10,← hji12] <;> (first | rfl | simp)) | (simp [*];done),by repeat (first | exact Drawn0.refl _ | apply Drawn0.step)⟩
            ·rw [if_neg c16] at H
             have c16b0 : decide (1000000 < (wrap64 (x7_1 + (ji12)))) = false:=decide_eq_false c16
             clear c16
             simp only [Option.some.injEq,Prod.mk.injEq] at H
             obtain ⟨rfl,rfl,rfl⟩:=H
             have p182 : 0 ≤ ((ji7) : Int):=oT_ (by first | (with_reducible assumption) | assumption)
             have q182 : (ji7) < (l0.length : Int):=oT_ (by first | (with_reducible assumption) | assumption)
             obtain ⟨ad182,e182,hx182_0⟩:=Kd.at_int HR0.out (ji7) p182 q182
             cases e182
             replace p182:=eq_true p182
             replace q182:=eq_true q182
             go_wp2
             go_ret3
             exact ⟨by first | rfl | (simp;done) | (simp only [← hji7,← hji10,← hji12] <;> (first | rfl | simp)) | (simp [*];done),by repeat (first | exact Drawn0.refl _ | apply Drawn0.step)⟩
          ·rw [if_neg c14] at H
           have c14b0 : ((wrap64 (rd l0 (ji7))) == 0) = false:=beq_eq_false_iff_ne.mpr c14
           have c14b1 : ((wrap64 (rd l0 (ji7))) != 0) = true:=bne_iff_ne.mpr c14
           by_cases c17 : (wrap64 (x7_1 + (ji12))) > 1000000
           ·rw [if_pos c17] at H
            have c17b0 : decide (1000000 < (wrap64 (x7_1 + (ji12)))) = true:=decide_eq_true c17
            clear c17
            simp only [Option.some.injEq,Prod.mk.injEq] at H
            obtain ⟨rfl,rfl,rfl⟩:=H
            have p182 : 0 ≤ ((ji7) : Int):=oT_ (by first | (with_reducible assumption) | assumption)
            have q182 : (ji7) < (l0.length : Int):=oT_ (by first | (with_reducible assumption) | assumption)
            obtain ⟨ad182,e182,hx182_0⟩:=Kd.at_int HR0.out (ji7) p182 q182
            cases e182
            replace p182:=eq_true p182
            replace q182:=eq_true q182
            go_wp2
            go_ret3
            exact ⟨by first | rfl | (simp;done) | (simp only [← hji7,← hji10,← hji12] <;> (first | rfl | simp)) | (simp [*];done),by repeat (first | exact Drawn0.refl _ | apply Drawn0.step)⟩
           ·rw [if_neg c17] at H
            have c17b0 : decide (1000000 < (wrap64 (x7_1 + (ji12)))) = false:=decide_eq_false c17
            clear c17
            simp only [Option.some.injEq,Prod.mk.injEq] at H
            obtain ⟨rfl,rfl,rfl⟩:=H
            have p182 : 0 ≤ ((ji7) : Int):=oT_ (by first | (with_reducible assumption) | assumption)
            have q182 : (ji7) < (l0.length : Int):=oT_ (by first | (with_reducible assumption) | assumption)
            obtain ⟨ad182,e182,hx182_0⟩:=Kd.at_int HR0.out (ji7) p182 q182
            cases e182
            replace p182:=eq_true p182
            replace q182:=eq_true q182
            go_wp2
            go_ret3
            exact ⟨by first | rfl | (simp;done) | (simp only [← hji7,← hji10,← hji12] <;> (first | rfl | simp)) | (simp [*];done),by repeat (first | exact Drawn0.refl _ | apply Drawn0.step)⟩
        ·rw [if_neg c11] at H
         exact absurd H (by simp)
       ·rw [if_neg c9] at H
        exact absurd H (by simp)
      ·rw [if_neg c8] at H
       exact absurd H (by simp)
     ·replace c6:=Bool.eq_false_iff.mpr c6
      subst c6
      have H1 : (some (0,0,false)) = some (r1,r2,r3):=by rw [if_neg (show ¬ (false = true) by decide)] at H;exact H
      clear H
      have H:=H1
      clear H1
      simp only [Option.some.injEq,Prod.mk.injEq] at H
      obtain ⟨rfl,rfl,rfl⟩:=H
      go_wp2
      go_ret3
      exact ⟨by first | rfl | (simp;done) | (simp [*];done),by repeat (first | exact Drawn0.refl _ | apply Drawn0.step)⟩
end Go.Proofs.Ytllgmgpfdnofmaa.PFnRowsRead
