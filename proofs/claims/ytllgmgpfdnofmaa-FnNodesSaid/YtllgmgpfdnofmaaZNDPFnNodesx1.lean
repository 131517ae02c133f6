import Derived.Test.YtllgmgpfdnofmaaZNDPFnNodesx0
namespace Go.Proofs.Ytllgmgpfdnofmaa.PFnNodes
open Go.RowKit Go.Proofs.YtllgmgpfdnofmaaW.PrintWords Go.Proofs.YtllgmgpfdnofmaaW.PrintLast Go.Proofs.YtllgmgpfdnofmaaW.PrintMore Go.Proofs.Ytllgmgpfdnofmaa.Xtra
attribute [local go_sem] max2_int min2_int max_two min_two max_three min_three max_four min_four str_leq str_gtr str_geq setCell_drewN cell_set2 cell_set3   -- for this text's walks alone
set_option linter.unusedVariables false
set_option linter.unusedSimpArgs false
def impl_clamp.f (a0 : Int) (a1 : Int) (a2 : Int) : Option (Int):=some (mx a1 (mn a0 a2))
set_option maxHeartbeats 8000000 in
set_option maxRecDepth 100000 in
theorem impl_clamp.calls (a0 : Int) (a1 : Int) (a2 : Int) (r : Int) (w : World) (h : impl_clamp.f a0 a1 a2 = some r) :
  Calls Try.prog 149 #[.int .i64 a0,.int .i64 a1,.int .i64 a2] w fun e w'=>e = .returned (.int .i64 r) ∧ Below w.heap.size w w':=by
 have HB:=aM_ (Below.refl w.heap.size w)
 have H : (some (mx a1 (mn a0 a2))) = some r:=h
 clear h
 obtain ⟨ji4,hji4⟩ : ∃ j_ : Int,(mn a0 a2) = j_:=⟨_,rfl⟩
 replace H : (some (mx a1 (ji4))) = some r:=by first | (rw [hji4] at H;exact H) | (simp only [hji4] at H ⊢;exact H)
 have hji4_ : (if a2 < a0 then a2 else a0) = ji4:=hji4
 obtain ⟨ji5,hji5⟩ : ∃ j_ : Int,(mx a1 (ji4)) = j_:=⟨_,rfl⟩
 replace H : (some ji5) = some r:=by first | (rw [hji5] at H;exact H) | (simp only [hji5] at H ⊢;exact H)
 have hji5_ : (if a1 < (ji4) then (ji4) else a1) = ji5:=hji5
 obtain rfl:=Option.some.inj H
 go_enter Try.func149,Try.ntmps149
 go_wp2
 go_ret
 exact ⟨by first | rfl | (simp [errW_none,errW_some] <;> rfl) | (simp only [← hji4,← hji5];first | rfl | (simp [errW_none,errW_some] <;> rfl)) | (simp [*, errW_none,errW_some] <;> rfl),by exact bZ_ HB⟩
def impl_addU.l0 : Nat → List Int → Int → Option (List Int)
 | 0,_,_=>none
 | k + 1,x0,x1=>if x1 > 127 then (if x0.length < 140737488355328 then (impl_addU.l0 k (x0 ++ [(wrap64 ((Int.tmod x1 128) + 128)) % 256]) (wrap64 (Int.tdiv x1 128))) else (none)) else (if x0.length < 140737488355328 then (some (x0 ++ [(x1) % 256])) else (none))
def impl_addU.f (k : Nat) (l0 : List Int) (a1 : Int) : Option (List Int):=(impl_clamp.f a1 0 1000000).bind fun t101=>(impl_addU.l0 k l0 t101)
theorem impl_addU.mono_l : ∀ k,(∀ y0 y1,LeO (impl_addU.l0 k y0 y1) (impl_addU.l0 (k + 1) y0 y1))
 | 0=>fun _ _ r h=>by simp [impl_addU.l0] at h
 | k + 1=>by
  have ih0:=impl_addU.mono_l k
  ·intro y0 y1
   unfold impl_addU.l0
   repeat' first
   | (with_reducible exact ih0 _ _)
   | (with_reducible exact LeO.refl _)
   | (with_reducible exact LeO.none _)
   | (with_reducible refine LeO.ite ?_ ?_)
   | (with_reducible refine LeO.bind ?_ (fun _=>?_))
   | exact ih0 _ _
   | exact LeO.none _
   | refine LeO.ite ?_ ?_
   | refine LeO.bind ?_ (fun _=>?_)
theorem impl_addU.mono : ∀ a0 a1 k,LeO (impl_addU.f k a0 a1) (impl_addU.f (k + 1) a0 a1):=by
 intro a0 a1 k
 have ih0:=impl_addU.mono_l k
 unfold impl_addU.f
 repeat' first
   | (with_reducible exact ih0 _ _)
   | (with_reducible exact LeO.refl _)
   | (with_reducible exact LeO.none _)
   | (with_reducible refine LeO.ite ?_ ?_)
   | (with_reducible refine LeO.bind ?_ (fun _=>?_))
   | exact ih0 _ _
   | exact LeO.none _
   | refine LeO.ite ?_ ?_
   | refine LeO.bind ?_ (fun _=>?_)
set_option maxHeartbeats 8000000 in
set_option maxRecDepth 100000 in
theorem impl_addU.calls (k : Nat) (P0_ : Nat → Prop) (u9000_ : Value) (l0 : List Int) (a1 : Int) (r : List Int) (w0 w : World) (hB : Below w0.heap.size w0 w) (ho0 : Kd.R (Kd.int .u8) 5 w w0.heap.size P0_ u9000_ l0) (h : impl_addU.f k l0 a1 = some r) :
  Calls Try.prog 99 #[u9000_,.int .i64 a1] w fun e w'=>∃ v0_ : Value,e = .returned (v0_) ∧ Kd.R (Kd.int .u8) 5 w' w0.heap.size (fun k_=>(P0_ k_ ∨ w.heap.size ≤ k_)) v0_ r ∧ Below w0.heap.size w0 w' ∧ Kept w w' (fun k_=>P0_ k_):=by
 have HO0:=aM_ (show Kd.R (Kd.int .u8) 5 w w0.heap.size (fun k_=>(P0_ k_ ∨ w.heap.size ≤ k_)) u9000_ l0 from Kd.R_mono ho0 (fun k_ hk=>(.inl hk)))
 have HK:=aM_ (Kept.refl w (fun k_=>P0_ k_))
 have HW0:=aM_ hB.size
 have HB:=aM_ hB
 clear hB
 have H : ((impl_clamp.f a1 0 1000000).bind fun t101=>(impl_addU.l0 k l0 t101)) = some r:=h
 clear h
 replace H:=oB_ H
 obtain ⟨t101,A30,H⟩:=H
 replace H : (impl_addU.l0 k l0 t101) = some r:=H
 have A3:=aM_ A30
 clear A30
 have H':=aM_ H
 clear H
 go_enter Try.func99,Try.ntmps99
 go_wp2_with (first | ((with_reducible refine gate_callee (f:=149) rfl ?_);refine goesL_ (some 6) rfl rfl Try.func149 (by kernel_rfl) rfl #[.int .i64 a1,.int .i64 0,.int .i64 1000000] rfl (by (try simp only [mA_,mC_,mN_]);first | done | rfl | (simp only [lD_,lT_];rfl)) ?_;(with_reducible refine (impl_clamp.calls a1 0 1000000 t101 _ A3.out).mono ?_);rintro e w4 ⟨rfl,hb⟩;refine ⟨_,rfl,?_⟩;have n0_:=aM_ (Kd.R_below (by exact rZ_ HO0) hb);have n1_:=aM_ (Kept.below (S:=(fun k_=>P0_ k_)) (by repeat (first | (with_reducible first | exact HK.out | apply Kept.alloc | apply Kept.drewN | apply Kept.drew) | exact HK.out)) hb);have n2_:=aM_ (bT_ (by exact bZ_ HB) hb);clear HO0 HK HB;have HO0:=n0_;have HK:=n1_;have HB:=n2_;clear n0_ n1_ n2_ hb))
 (try simp only [Act.put,sI_,sS_,sZ_])
 go_loopg [0,1] k (fun kq v0 v1 w'=>∃ (x0_1 : List Int) (x1_1 : Int),v1 = .int .i64 x1_1 ∧ Aside0 (impl_addU.l0 kq x0_1 x1_1 = some r) ∧ Aside0 (kq ≤ k) ∧ Aside0 (Kd.R (Kd.int .u8) 5 w' w0.heap.size (fun k_=>(P0_ k_ ∨ w.heap.size ≤ k_)) v0 x0_1) ∧ Aside0 (Kept w w' (fun k_=>P0_ k_)) ∧ Aside0 (Below w0.heap.size w0 w'))
 case atStart=>exact ⟨(l0),(t101),(by first | rfl | (simp;done) | (simp [*];done)),H', ⟨Nat.le_refl _⟩,⟨by exact rZ_ HO0⟩,⟨by repeat (first | (with_reducible first | exact HK.out | apply Kept.alloc | apply Kept.drewN | apply Kept.drew) | exact HK.out)⟩,⟨by exact bZ_ HB⟩⟩
 case round =>
  clear H'
  obtain ⟨x0_1,x1_1,rfl,HA,HK1,HO_0,HK,HB⟩:=hrel
  cases gk with
  | zero=>exact absurd HA.out (by simp [impl_addU.l0])
  | succ k1 =>
   have H:=HA.out
   clear HA
   simp only [impl_addU.l0] at H
   by_cases c5 : x1_1 > 127
   ·rw [if_pos c5] at H
    have c5b0 : decide (127 < x1_1) = true:=decide_eq_true c5
    clear c5
    by_cases c6 : x0_1.length < 140737488355328
    ·rw [if_pos c6] at H
     have LMc6:=aM_ c6
     clear c6
     obtain ⟨y102,hy102⟩ : ∃ y_ : List Int,y_ = (x0_1 ++ [(wrap64 ((Int.tmod x1_1 128) + 128)) % 256]):=⟨_,rfl⟩
     replace H : (impl_addU.l0 k1 y102 (wrap64 (Int.tdiv x1_1 128))) = some r:=by first | (rw [hy102];with_reducible exact H) | (have H2_:=(Option.bind_some _ _).symm.trans H;rw [hy102];with_reducible exact H2_) | (have H2_:=(Option.bind_some _ _).symm.trans H;with_reducible exact H2_) | with_reducible exact H | (rw [hy102];exact H) | exact H
     have Ny102:=aM_ hy102
     clear hy102
     have H':=aM_ H
     clear H
     go_wp2_with (first | ((with_reducible refine gate_builtin (b:=.append) (xs:=#[.tmp 9,.tmp 14]) rfl ?_);at_builtin;refine Kd.R_append (Kd.int .u8) (w0:=w0) w0.heap.size rfl (.tmp 9) (.tmp 14) 27 5 (.int .u8 0) 1 rfl Try.underlying27 info5 rfl (by decide) (by omega) u0 x0_1 ((wrap64 ((Int.tmod x1_1 128) + 128)) % 256) [.int .u8 ((wrap64 ((Int.tmod x1_1 128) + 128)) % 256)] (fun k_=>(P0_ k_ ∨ w.heap.size ≤ k_)) (fun _=>False) rfl rfl ?aP (fun _ hk=>hk.elim) ?aF ?aO ?aB ?aS ?aL ?_;(case aP=>exact rfl);(case aB=>exact (by exact bZ_ HB));(case aF=>exact (fun k_ hk=>(.inr (Nat.le_trans (by first | exact HK.out.1 | exact (show Kept w _ (fun k_=>P0_ k_) from by repeat (first | (with_reducible first | exact HK.out | apply Kept.alloc | apply Kept.drewN | apply Kept.drew) | exact HK.out)).1) hk))));(case aO=>exact (by exact rZ_ HO_0));(case aS=>exact (bS_ (by exact bZ_ HB)));(case aL=>have:=LMc6.out;omega);intro v103 w7 ho hb hg hat;rw [← Ny102.out] at ho;have n0_:=aM_ (hb);have n1_:=aM_ (Kept.of_grown (S:=(fun k_=>P0_ k_)) hg (by repeat (first | (with_reducible first | exact HK.out | apply Kept.alloc | apply Kept.drewN | apply Kept.drew) | exact HK.out)) (fun k_ e_=>(HO_0.out.1 k_ e_)));have n2_:=aM_ (ho);clear HB HK HO_0;have HB:=n0_;have HK:=n1_;have HO104:=n2_;clear n0_ n1_ n2_ ho hb hg hat))
     go_roundg k1
     case measure=>have:=HK1.out;omega
     case rel=>exact ⟨(y102),(wrap64 (Int.tdiv x1_1 128)),(by first | rfl | (simp;done) | (simp [*];done)),H', ⟨by have:=HK1.out;omega⟩,⟨by exact rZ_ HO104⟩,⟨by repeat (first | (with_reducible first | exact HK.out | apply Kept.alloc | apply Kept.drewN | apply Kept.drew) | exact HK.out)⟩,⟨by exact bZ_ HB⟩⟩
    ·rw [if_neg c6] at H
     exact absurd H (by simp)
   ·rw [if_neg c5] at H
    have c5b0 : decide (127 < x1_1) = false:=decide_eq_false c5
    clear c5
    by_cases c8 : x0_1.length < 140737488355328
    ·rw [if_pos c8] at H
     have LMc8:=aM_ c8
     clear c8
     obtain ⟨y105,hy105⟩ : ∃ y_ : List Int,y_ = (x0_1 ++ [(x1_1) % 256]):=⟨_,rfl⟩
     replace H : (some y105) = some r:=by first | (rw [hy105];with_reducible exact H) | (have H2_:=(Option.bind_some _ _).symm.trans H;rw [hy105];with_reducible exact H2_) | (have H2_:=(Option.bind_some _ _).symm.trans H;with_reducible exact H2_) | with_reducible exact H | (rw [hy105];exact H) | exact H
     have Ny105:=aM_ hy105
     clear hy105
     obtain rfl:=Option.some.inj H
     go_wp2_with (first | ((with_reducible refine gate_builtin (b:=.append) (xs:=#[.tmp 18,.tmp 21]) rfl ?_);at_builtin;refine Kd.R_append (Kd.int .u8) (w0:=w0) w0.heap.size rfl (.tmp 18) (.tmp 21) 27 5 (.int .u8 0) 1 rfl Try.underlying27 info5 rfl (by decide) (by omega) u0 x0_1 ((x1_1) % 256) [.int .u8 ((x1_1) % 256)] (fun k_=>(P0_ k_ ∨ w.heap.size ≤ k_)) (fun _=>False) rfl rfl ?aP (fun _ hk=>hk.elim) ?aF ?aO ?aB ?aS ?aL ?_;(case aP=>exact rfl);(case aB=>exact (by exact bZ_ HB));(case aF=>exact (fun k_ hk=>(.inr (Nat.le_trans (by first | exact HK.out.1 | exact (show Kept w _ (fun k_=>P0_ k_) from by repeat (first | (with_reducible first | exact HK.out | apply Kept.alloc | apply Kept.drewN | apply Kept.drew) | exact HK.out)).1) hk))));(case aO=>exact (by exact rZ_ HO_0));(case aS=>exact (bS_ (by exact bZ_ HB)));(case aL=>have:=LMc8.out;omega);intro v106 w9 ho hb hg hat;rw [← Ny105.out] at ho;have n0_:=aM_ (hb);have n1_:=aM_ (Kept.of_grown (S:=(fun k_=>P0_ k_)) hg (by repeat (first | (with_reducible first | exact HK.out | apply Kept.alloc | apply Kept.drewN | apply Kept.drew) | exact HK.out)) (fun k_ e_=>(HO_0.out.1 k_ e_)));have n2_:=aM_ (ho);clear HB HK HO_0;have HB:=n0_;have HK:=n1_;have HO107:=n2_;clear n0_ n1_ n2_ ho hb hg hat))
     go_ret
     exact ⟨_,by first | rfl | (simp [errW_none,errW_some] <;> rfl) | (simp [*, errW_none,errW_some] <;> rfl),by exact rZ_ HO107,by exact bZ_ HB,by repeat (first | (with_reducible first | exact HK.out | apply Kept.alloc | apply Kept.drewN | apply Kept.drew) | exact HK.out)⟩
    ·rw [if_neg c8] at H
     exact absurd H (by simp)
def impl_addText.f (k : Nat) (l0 : List Int) (a1 : ByteArray) : Option (List Int):=(impl_addU.f k l0 (a1.size : Int)).bind fun t108=>(if t108.length + a1.size < 140737488355328 then (some (t108 ++ bytesOf a1)) else (none))
theorem impl_addText.mono : ∀ a0 a1 k,LeO (impl_addText.f k a0 a1) (impl_addText.f (k + 1) a0 a1):=by
 intro a0 a1 k
 unfold impl_addText.f
 repeat' first
   | (with_reducible exact impl_addU.mono _ _ _)
   | (with_reducible exact LeO.refl _)
   | (with_reducible exact LeO.none _)
   | (with_reducible refine LeO.ite ?_ ?_)
   | (with_reducible refine LeO.bind ?_ (fun _=>?_))
   | exact impl_addU.mono _ _ _
   | exact LeO.none _
   | refine LeO.ite ?_ ?_
   | refine LeO.bind ?_ (fun _=>?_)
set_option maxHeartbeats 8000000 in
set_option maxRecDepth 100000 in
theorem impl_addText.calls (k : Nat) (P0_ : Nat → Prop) (u9000_ : Value) (l0 : List Int) (a1 : ByteArray) (r : List Int) (w0 w : World) (hB : Below w0.heap.size w0 w) (ho0 : Kd.R (Kd.int .u8) 5 w w0.heap.size P0_ u9000_ l0) (h : impl_addText.f k l0 a1 = some r) :
  Calls Try.prog 101 #[u9000_,.string a1] w fun e w'=>∃ v0_ : Value,e = .returned (v0_) ∧ Kd.R (Kd.int .u8) 5 w' w0.heap.size (fun k_=>(P0_ k_ ∨ w.heap.size ≤ k_)) v0_ r ∧ Below w0.heap.size w0 w' ∧ Kept w w' (fun k_=>P0_ k_):=by
 have HO0:=aM_ (show Kd.R (Kd.int .u8) 5 w w0.heap.size (fun k_=>(P0_ k_ ∨ w.heap.size ≤ k_)) u9000_ l0 from Kd.R_mono ho0 (fun k_ hk=>(.inl hk)))
 have HK:=aM_ (Kept.refl w (fun k_=>P0_ k_))
 have HW0:=aM_ hB.size
 have HB:=aM_ hB
 clear hB
 have H : ((impl_addU.f k l0 (a1.size : Int)).bind fun t108=>(if t108.length + a1.size < 140737488355328 then (some (t108 ++ bytesOf a1)) else (none))) = some r:=h
 clear h
 replace H:=oB_ H
 obtain ⟨t108,A30,H⟩:=H
 replace H : (if t108.length + a1.size < 140737488355328 then (some (t108 ++ bytesOf a1)) else (none)) = some r:=H
 have A3:=aM_ A30
 clear A30
 by_cases c4 : t108.length + a1.size < 140737488355328
 ·rw [if_pos c4] at H
  have LMc4:=aM_ c4
  clear c4
  obtain ⟨y111,hy111⟩ : ∃ y_ : List Int,y_ = (t108 ++ bytesOf a1):=⟨_,rfl⟩
  replace H : (some y111) = some r:=by first | (rw [hy111];with_reducible exact H) | (have H2_:=(Option.bind_some _ _).symm.trans H;rw [hy111];with_reducible exact H2_) | (have H2_:=(Option.bind_some _ _).symm.trans H;with_reducible exact H2_) | with_reducible exact H | (rw [hy111];exact H) | exact H
  have Ny111:=aM_ hy111
  clear hy111
  obtain rfl:=Option.some.inj H
  obtain ⟨Ao5,co5,eo5⟩:=Kd.R_slice HO0.out
  subst eo5
  go_enter Try.func101,Try.ntmps101
  go_wp2_with (first | ((with_reducible refine gate_callee (f:=99) rfl ?_);refine goesL_ (some 8) rfl rfl Try.func99 (by kernel_rfl) rfl #[.slice Ao5 l0.length co5,.int .i64 (a1.size : Int)] rfl (by (try simp only [mA_,mC_,mN_]);first | done | rfl | (simp only [lD_,lT_];rfl)) ?_;(with_reducible refine (impl_addU.calls k (fun k_=>some k_ = (.slice Ao5 l0.length co5 : Value).ownBlock) (.slice Ao5 l0.length co5) l0 (a1.size : Int) t108 w0 _ ?side1 ?side2 A3.out).mono ?_);(case side1=>exact bZ_ HB);(case side2=>exact Kd.R_tight rfl HO0.out);rintro e w6 ⟨v109,rfl,ho0,hb,hkp⟩;refine ⟨_,rfl,?_⟩;have n0_:=aM_ (Kd.R_mono (ok':=fun k_=>(P0_ k_ ∨ w.heap.size ≤ k_)) ho0 (fun k_ hk_=>Or.elim hk_ (fun hs_=>(HO0.out.1 k_ (hs_).symm)) (fun hn_=>(.inr (Nat.le_trans (by first | exact HK.out.1 | exact (show Kept w _ (fun k_=>P0_ k_) from by repeat (first | (with_reducible first | exact HK.out | apply Kept.alloc | apply Kept.drewN | apply Kept.drew) | exact HK.out)).1) hn_)))));have n1_:=aM_ (Kept.then_ (S:=(fun k_=>P0_ k_)) (by repeat (first | (with_reducible first | exact HK.out | apply Kept.alloc | apply Kept.drewN | apply Kept.drew) | exact HK.out)) hkp (fun k_ hs_=>(fun e_=>(HO0.out.1 k_ e_.symm)) hs_));have n2_:=aM_ (hb);clear HK HB HO0;have HO110:=n0_;have HK:=n1_;have HB:=n2_;clear n0_ n1_ n2_ hb hkp ho0) | (at_builtin;refine append_str (w0:=w0) w0.heap.size rfl (.tmp 8) _ 27 9 5 rfl Try.underlying27 Try.underlying9 info5 v109 t108 a1 (fun k_=>(P0_ k_ ∨ w.heap.size ≤ k_)) rfl rfl ?aO ?aF ?aB ?aS ?aL ?_;(case aB=>exact (by exact bZ_ HB));(case aF=>exact (fun k_ hk=>(.inr (Nat.le_trans (by first | exact HK.out.1 | exact (show Kept w _ (fun k_=>P0_ k_) from by repeat (first | (with_reducible first | exact HK.out | apply Kept.alloc | apply Kept.drewN | apply Kept.drew) | exact HK.out)).1) hk))));(case aO=>exact (by exact rZ_ HO110));(case aS=>exact (bS_ (by exact bZ_ HB)));(case aL=>have:=LMc4.out;omega);intro v112 w7 ho hb hg hat;rw [← Ny111.out] at ho;have n0_:=aM_ (hb);have n1_:=aM_ (Kept.of_grown (S:=(fun k_=>P0_ k_)) hg (by repeat (first | (with_reducible first | exact HK.out | apply Kept.alloc | apply Kept.drewN | apply Kept.drew) | exact HK.out)) (fun k_ e_=>(HO110.out.1 k_ e_)));have n2_:=aM_ (ho);clear HB HK HO110;have HB:=n0_;have HK:=n1_;have HO113:=n2_;clear n0_ n1_ n2_ ho hb hg hat))
  go_ret
  exact ⟨_,by first | rfl | (simp [errW_none,errW_some] <;> rfl) | (simp [*, errW_none,errW_some] <;> rfl),by exact rZ_ HO113,by exact bZ_ HB,by repeat (first | (with_reducible first | exact HK.out | apply Kept.alloc | apply Kept.drewN | apply Kept.drew) | exact HK.out)⟩
 ·rw [if_neg c4] at H
  exact absurd H (by simp)
mutual
def impl_bodyOf.j0 : Nat → List Int → Bool → List ByteArray → List ByteArray → List Int → Option (List Int)
 | 0,_,_,_,_,_=>none
 | k + 1,x3,x115000,x115001,x115002,x115003=>(impl_addU.f k x3 (x115001.length : Int)).bind fun t121=>(impl_bodyOf.l0 k t121 x115001 (x115001.length : Int) 0 x115000 x115001 x115002 x115003)
def impl_bodyOf.l0 : Nat → List Int → List ByteArray → Int → Int → Bool → List ByteArray → List ByteArray → List Int → Option (List Int)
 | 0,_,_,_,_,_,_,_,_=>none
 | k + 1,x3,x24,x25,x26,x115000,x115001,x115002,x115003=>if x26 < x25 then (if 0 ≤ x26 then (if x26 < (x24.length : Int) then ((impl_addText.f k x3 (rdOf ByteArray.empty x24 x26)).bind fun t125=>(impl_bodyOf.l0 k t125 x24 x25 (wrap64 (x26 + 1)) x115000 x115001 x115002 x115003)) else (none)) else (none)) else (if x115000 = true then (impl_bodyOf.l1 k x3 x115002 (x115002.length : Int) 0) else (impl_bodyOf.l2 k x3 x115003 (x115003.length : Int) 0))
def impl_bodyOf.l1 : Nat → List Int → List ByteArray → Int → Int → Option (List Int)
 | 0,_,_,_,_=>none
 | k + 1,x3,x37,x38,x39=>if x39 < x38 then (if 0 ≤ x39 then (if x39 < (x37.length : Int) then ((impl_addText.f k x3 (rdOf ByteArray.empty x37 x39)).bind fun t129=>(impl_bodyOf.l1 k t129 x37 x38 (wrap64 (x39 + 1)))) else (none)) else (none)) else (some x3)
def impl_bodyOf.l2 : Nat → List Int → List Int → Int → Int → Option (List Int)
 | 0,_,_,_,_=>none
 | k + 1,x3,x49,x50,x51=>if x51 < x50 then (if 0 ≤ x51 then (if x51 < (x49.length : Int) then ((impl_addU.f k x3 (rd x49 x51)).bind fun t133=>(impl_bodyOf.l2 k t133 x49 x50 (wrap64 (x51 + 1)))) else (none)) else (none)) else (some x3)
end
def impl_bodyOf.f (k : Nat) (a0_0 : Bool) (l0_1 : List ByteArray) (l0_2 : List ByteArray) (l0_3 : List Int) : Option (List Int):=if a0_0 = true then (if ([] : List Int).length < 140737488355328 then (impl_bodyOf.j0 k (([] : List Int) ++ [1]) a0_0 l0_1 l0_2 l0_3) else (none)) else (if ([] : List Int).length < 140737488355328 then (impl_bodyOf.j0 k (([] : List Int) ++ [0]) a0_0 l0_1 l0_2 l0_3) else (none))
theorem impl_bodyOf.mono_l : ∀ k,(∀ y0 y1 y2 y3 y4,LeO (impl_bodyOf.j0 k y0 y1 y2 y3 y4) (impl_bodyOf.j0 (k + 1) y0 y1 y2 y3 y4)) ∧ (∀ y0 y1 y2 y3 y4 y5 y6 y7,LeO (impl_bodyOf.l0 k y0 y1 y2 y3 y4 y5 y6 y7) (impl_bodyOf.l0 (k + 1) y0 y1 y2 y3 y4 y5 y6 y7)) ∧ (∀ y0 y1 y2 y3,LeO (impl_bodyOf.l1 k y0 y1 y2 y3) (impl_bodyOf.l1 (k + 1) y0 y1 y2 y3)) ∧ (∀ y0 y1 y2 y3,LeO (impl_bodyOf.l2 k y0 y1 y2 y3) (impl_bodyOf.l2 (k + 1) y0 y1 y2 y3))
 | 0=>⟨fun _ _ _ _ _ r h=>by simp [impl_bodyOf.j0] at h,fun _ _ _ _ _ _ _ _ r h=>by simp [impl_bodyOf.l0] at h,fun _ _ _ _ r h=>by simp [impl_bodyOf.l1] at h,fun _ _ _ _ r h=>by simp [impl_bodyOf.l2] at h⟩
 | k + 1=>by
  obtain ⟨ih0,ih1,ih2,ih3⟩:=impl_bodyOf.mono_l k
  refine ⟨?_,?_,?_,?_⟩
  ·intro y0 y1 y2 y3 y4
   unfold impl_bodyOf.j0
   repeat' first
   | (with_reducible exact ih0 _ _ _ _ _)
   | (with_reducible exact ih1 _ _ _ _ _ _ _ _)
   | (with_reducible exact ih2 _ _ _ _)
   | (with_reducible exact ih3 _ _ _ _)
   | (with_reducible exact impl_addText.mono _ _ _)
   | (with_reducible exact impl_addU.mono _ _ _)
   | (with_reducible exact LeO.refl _)
   | (with_reducible exact LeO.none _)
   | (with_reducible refine LeO.ite ?_ ?_)
   | (with_reducible refine LeO.bind ?_ (fun _=>?_))
   | exact ih0 _ _ _ _ _
   | exact ih1 _ _ _ _ _ _ _ _
   | exact ih2 _ _ _ _
   | exact ih3 _ _ _ _
   | exact impl_addText.mono _ _ _
   | exact impl_addU.mono _ _ _
   | exact LeO.none _
   | refine LeO.ite ?_ ?_
   | refine LeO.bind ?_ (fun _=>?_)
  ·intro y0 y1 y2 y3 y4 y5 y6 y7
   unfold impl_bodyOf.l0
   repeat' first
   | (with_reducible exact ih0 _ _ _ _ _)
   | (with_reducible exact ih1 _ _ _ _ _ _ _ _)
   | (with_reducible exact ih2 _ _ _ _)
   | (with_reducible exact ih3 _ _ _ _)
   | (with_reducible exact impl_addText.mono _ _ _)
   | (with_reducible exact impl_addU.mono _ _ _)
   | (with_reducible exact LeO.refl _)
   | (with_reducible exact LeO.none _)
   | (with_reducible refine LeO.ite ?_ ?_)
   | (with_reducible refine LeO.bind ?_ (fun _=>?_))
   | exact ih0 _ _ _ _ _
   | exact ih1 _ _ _ _ _ _ _ _
   | exact ih2 _ _ _ _
   | exact ih3 _ _ _ _
   | exact impl_addText.mono _ _ _
   | exact impl_addU.mono _ _ _
   | exact LeO.none _
   | refine LeO.ite ?_ ?_
   | refine LeO.bind ?_ (fun _=>?_)
  ·intro y0 y1 y2 y3
   unfold impl_bodyOf.l1
   repeat' first
   | (with_reducible exact ih0 _ _ _ _ _)
   | (with_reducible exact ih1 _ _ _ _ _ _ _ _)
   | (with_reducible exact ih2 _ _ _ _)
   | (with_reducible exact ih3 _ _ _ _)
   | (with_reducible exact impl_addText.mono _ _ _)
   | (with_reducible exact impl_addU.mono _ _ _)
   | (with_reducible exact LeO.refl _)
   | (with_reducible exact LeO.none _)
   | (with_reducible refine LeO.ite ?_ ?_)
   | (with_reducible refine LeO.bind ?_ (fun _=>?_))
   | exact ih0 _ _ _ _ _
   | exact ih1 _ _ _ _ _ _ _ _
   | exact ih2 _ _ _ _
   | exact ih3 _ _ _ _
   | exact impl_addText.mono _ _ _
   | exact impl_addU.mono _ _ _
   | exact LeO.none _
   | refine LeO.ite ?_ ?_
   | refine LeO.bind ?_ (fun _=>?_)
  ·intro y0 y1 y2 y3
   unfold impl_bodyOf.l2
   repeat' first
   | (with_reducible exact ih0 _ _ _ _ _)
   | (with_reducible exact ih1 _ _ _ _ _ _ _ _)
   | (with_reducible exact ih2 _ _ _ _)
   | (with_reducible exact ih3 _ _ _ _)
   | (with_reducible exact impl_addText.mono _ _ _)
   | (with_reducible exact impl_addU.mono _ _ _)
   | (with_reducible exact LeO.refl _)
   | (with_reducible exact LeO.none _)
   | (with_reducible refine LeO.ite ?_ ?_)
   | (with_reducible refine LeO.bind ?_ (fun _=>?_))
   | exact ih0 _ _ _ _ _
   | exact ih1 _ _ _ _ _ _ _ _
   | exact ih2 _ _ _ _
   | exact ih3 _ _ _ _
   | exact impl_addText.mono _ _ _
   | exact impl_addU.mono _ _ _
   | exact LeO.none _
   | refine LeO.ite ?_ ?_
   | refine LeO.bind ?_ (fun _=>?_)
theorem impl_bodyOf.mono : ∀ a0 a1 a2 a3 k,LeO (impl_bodyOf.f k a0 a1 a2 a3) (impl_bodyOf.f (k + 1) a0 a1 a2 a3):=by
 intro a0 a1 a2 a3 k
 obtain ⟨ih0,ih1,ih2,ih3⟩:=impl_bodyOf.mono_l k
 unfold impl_bodyOf.f
 repeat' first
   | (with_reducible exact ih0 _ _ _ _ _)
   | (with_reducible exact ih1 _ _ _ _ _ _ _ _)
   | (with_reducible exact ih2 _ _ _ _)
   | (with_reducible exact ih3 _ _ _ _)
   | (with_reducible exact impl_addText.mono _ _ _)
   | (with_reducible exact impl_addU.mono _ _ _)
   | (with_reducible exact LeO.refl _)
   | (with_reducible exact LeO.none _)
   | (with_reducible refine LeO.ite ?_ ?_)
   | (with_reducible refine LeO.bind ?_ (fun _=>?_))
   | exact ih0 _ _ _ _ _
   | exact ih1 _ _ _ _ _ _ _ _
   | exact ih2 _ _ _ _
   | exact ih3 _ _ _ _
   | exact impl_addText.mono _ _ _
   | exact impl_addU.mono _ _ _
   | exact LeO.none _
   | refine LeO.ite ?_ ?_
   | refine LeO.bind ?_ (fun _=>?_)
set_option maxHeartbeats 8000000 in
set_option maxRecDepth 100000 in
theorem impl_bodyOf.calls (k : Nat) (a0_0 : Bool) (A0_1 : Option Addr) (c0_1 : Nat) (l0_1 : List ByteArray) (A0_2 : Option Addr) (c0_2 : Nat) (l0_2 : List ByteArray) (A0_3 : Option Addr) (c0_3 : Nat) (l0_3 : List Int) (r : List Int) (w : World) (hr0_1 : Kd.C Kd.string w A0_1 l0_1.length l0_1) (hc0_1 : l0_1.length ≤ c0_1) (hr0_2 : Kd.C Kd.string w A0_2 l0_2.length l0_2) (hc0_2 : l0_2.length ≤ c0_2) (hr0_3 : Kd.C (Kd.int .i64) w A0_3 l0_3.length l0_3) (hc0_3 : l0_3.length ≤ c0_3) (h : impl_bodyOf.f k a0_0 l0_1 l0_2 l0_3 = some r) :
  Calls Try.prog 71 #[.agg #[.bool a0_0,.slice A0_1 l0_1.length c0_1,.slice A0_2 l0_2.length c0_2,.slice A0_3 l0_3.length c0_3]] w fun e w'=>∃ v0_ : Value,e = .returned (v0_) ∧ Kd.R (Kd.int .u8) 5 w' w.heap.size (fun _=>True) v0_ r ∧ Below w.heap.size w w':=by
 have hu29:=Try.underlying29
 have HR0_1:=aM_ hr0_1
 have HC0_1:=aM_ hc0_1
 clear hr0_1 hc0_1
 have HR0_2:=aM_ hr0_2
 have HC0_2:=aM_ hc0_2
 clear hr0_2 hc0_2
 have HR0_3:=aM_ hr0_3
 have HC0_3:=aM_ hc0_3
 clear hr0_3 hc0_3
 have HB:=aM_ (Below.refl w.heap.size w)
 have H : (if a0_0 = true then (if ([] : List Int).length < 140737488355328 then (impl_bodyOf.j0 k (([] : List Int) ++ [1]) a0_0 l0_1 l0_2 l0_3) else (none)) else (if ([] : List Int).length < 140737488355328 then (impl_bodyOf.j0 k (([] : List Int) ++ [0]) a0_0 l0_1 l0_2 l0_3) else (none))) = some r:=h
 clear h
 have HC2:=aM_ H
 clear H
 go_enter Try.func71,Try.ntmps71
 go_upto_if 11 with (first | ((with_reducible refine gate_dst (N:=1) rfl ?_);refine box_event ?hg (N:=1) ?hd (cs:=#[.bool a0_0,.slice A0_1 l0_1.length c0_1,.slice A0_2 l0_2.length c0_2,.slice A0_3 l0_3.length c0_3]) (t:=29) ?hr ?_;(case hd=>rfl);(case hg=>rfl);(case hr=>first | (go_simp;done) | (go_simp;rfl));intro gb114 hg w3 hbox hb;have n0_:=aM_ (bT_ (by exact bZ_ HB) hb);have n1_:=aM_ (hbox);have n2_:=aM_ ((by rw [hg];exact (bS_ (by exact bZ_ HB)) : w.heap.size ≤ gb114));have n3_:=aM_ ((by rw [hg];exact (bS_ (by exact bZ_ HB)) : w.heap.size ≤ gb114));clear HB;have HB:=n0_;have BK114:=n1_;have GW114:=n2_;have GE114:=n3_;clear n0_ n1_ n2_ n3_ hb hbox hg;have hcz4_0 : w3.cell? ⟨gb114,0,none⟩ = some (.bool a0_0):=(kC_ BK114.out 0).trans rfl;have hcz4_1 : w3.cell? ⟨gb114,1,none⟩ = some (.slice A0_1 l0_1.length c0_1):=(kC_ BK114.out 1).trans rfl;have hcz4_2 : w3.cell? ⟨gb114,2,none⟩ = some (.slice A0_2 l0_2.length c0_2):=(kC_ BK114.out 2).trans rfl;have hcz4_3 : w3.cell? ⟨gb114,3,none⟩ = some (.slice A0_3 l0_3.length c0_3):=(kC_ BK114.out 3).trans rfl;have hfz4_0:=kF_ BK114.out 0;have hfz4_1:=kF_ BK114.out 1;have hfz4_2:=kF_ BK114.out 2;have hfz4_3:=kF_ BK114.out 3))
 (try simp only [Act.put,sI_,sZ_,sS_])
 go_cut [3] (fun v3 wc=>∃ (kq : Nat) (x3_1 : List Int),Aside0 (impl_bodyOf.j0 kq x3_1 a0_0 l0_1 l0_2 l0_3 = some r) ∧ Aside0 (kq ≤ k) ∧ Aside0 (Kd.R (Kd.int .u8) 5 wc w.heap.size (fun _=>True) v3 x3_1) ∧ Aside0 (wc.heap[gb114]? = some (.cells #[.bool a0_0,(.slice A0_1 l0_1.length c0_1),(.slice A0_2 l0_2.length c0_2),(.slice A0_3 l0_3.length c0_3)] 29 (0,0))) ∧ Aside0 (Below w.heap.size w wc))
 case first =>
  have H:=HC2.out
  clear HC2
  by_cases c5 : a0_0 = true
  ·subst c5
   have H1 : (if ([] : List Int).length < 140737488355328 then (impl_bodyOf.j0 k (([] : List Int) ++ [1]) true l0_1 l0_2 l0_3) else (none)) = some r:=by rw [if_pos rfl] at H;exact H
   clear H
   have H:=H1
   clear H1
   by_cases c6 : ([] : List Int).length < 140737488355328
   ·rw [if_pos c6] at H
    have LMc6:=aM_ c6
    clear c6
    obtain ⟨y115,hy115⟩ : ∃ y_ : List Int,y_ = (([] : List Int) ++ [1]):=⟨_,rfl⟩
    replace H : (impl_bodyOf.j0 k y115 true l0_1 l0_2 l0_3) = some r:=by first | (rw [hy115];with_reducible exact H) | (have H2_:=(Option.bind_some _ _).symm.trans H;rw [hy115];with_reducible exact H2_) | (have H2_:=(Option.bind_some _ _).symm.trans H;with_reducible exact H2_) | with_reducible exact H | (rw [hy115];exact H) | exact H
    have Ny115:=aM_ hy115
    clear hy115
    have H':=aM_ H
    clear H
    go_wp2_with (first | ((with_reducible refine gate_builtin (b:=.append) (xs:=#[.tmp 12,.tmp 13]) rfl ?_);at_builtin;refine Kd.R_append (Kd.int .u8) (w0:=w) w.heap.size rfl (.tmp 12) (.tmp 13) 27 5 (.int .u8 0) 1 rfl Try.underlying27 info5 rfl (by decide) (by omega) (.slice none 0 0) ([] : List Int) 1 [.int .u8 1] (fun _=>True) (fun _=>False) rfl rfl ?aP (fun _ hk=>hk.elim) ?aF ?aO ?aB ?aS ?aL ?_;(case aP=>exact rfl);(case aB=>exact (by exact bZ_ HB));(case aF=>exact (fun _ _=>trivial));(case aO=>exact ((Kd.R_nil _ _ _ _ (fun _=>True))));(case aS=>exact (bS_ (by exact bZ_ HB)));(case aL=>have:=LMc6.out;omega);intro v116 w7 ho hb hg hat;rw [← Ny115.out] at ho;have n0_:=aM_ (blk_grown (g:=gb114) (o:=.cells #[.bool true,.slice A0_1 l0_1.length c0_1,.slice A0_2 l0_2.length c0_2,.slice A0_3 l0_3.length c0_3] 29 (0,0)) (by exact kZ_ BK114) hg (by simp [Value.ownBlock]));have n1_:=aM_ (hb);have n2_:=aM_ (ho);clear BK114 HB;have BK114:=n0_;have HB:=n1_;have HO117:=n2_;clear n0_ n1_ n2_ ho hb hg hat))
    go_meet
    case rel=>exact ⟨_,(y115),H', ⟨by first | omega | exact Nat.le_refl _⟩,⟨by exact rZ_ HO117⟩,⟨by exact kZ_ BK114⟩,⟨by exact bZ_ HB⟩⟩
   ·rw [if_neg c6] at H
    exact absurd H (by simp)
  ·replace c5:=Bool.eq_false_iff.mpr c5
   subst c5
   have H1 : (if ([] : List Int).length < 140737488355328 then (impl_bodyOf.j0 k (([] : List Int) ++ [0]) false l0_1 l0_2 l0_3) else (none)) = some r:=by rw [if_neg (show ¬ (false = true) by decide)] at H;exact H
   clear H
   have H:=H1
   clear H1
   by_cases c8 : ([] : List Int).length < 140737488355328
   ·rw [if_pos c8] at H
    have LMc8:=aM_ c8
    clear c8
    obtain ⟨y118,hy118⟩ : ∃ y_ : List Int,y_ = (([] : List Int) ++ [0]):=⟨_,rfl⟩
    replace H : (impl_bodyOf.j0 k y118 false l0_1 l0_2 l0_3) = some r:=by first | (rw [hy118];with_reducible exact H) | (have H2_:=(Option.bind_some _ _).symm.trans H;rw [hy118];with_reducible exact H2_) | (have H2_:=(Option.bind_some _ _).symm.trans H;with_reducible exact H2_) | with_reducible exact H | (rw [hy118];exact H) | exact H
    have Ny118:=aM_ hy118
    clear hy118
    have H':=aM_ H
    clear H
    go_wp2_with (first | ((with_reducible refine gate_builtin (b:=.append) (xs:=#[.tmp 15,.tmp 16]) rfl ?_);at_builtin;refine Kd.R_append (Kd.int .u8) (w0:=w) w.heap.size rfl (.tmp 15) (.tmp 16) 27 5 (.int .u8 0) 1 rfl Try.underlying27 info5 rfl (by decide) (by omega) (.slice none 0 0) ([] : List Int) 0 [.int .u8 0] (fun _=>True) (fun _=>False) rfl rfl ?aP (fun _ hk=>hk.elim) ?aF ?aO ?aB ?aS ?aL ?_;(case aP=>exact rfl);(case aB=>exact (by exact bZ_ HB));(case aF=>exact (fun _ _=>trivial));(case aO=>exact ((Kd.R_nil _ _ _ _ (fun _=>True))));(case aS=>exact (bS_ (by exact bZ_ HB)));(case aL=>have:=LMc8.out;omega);intro v119 w9 ho hb hg hat;rw [← Ny118.out] at ho;have n0_:=aM_ (blk_grown (g:=gb114) (o:=.cells #[.bool false,.slice A0_1 l0_1.length c0_1,.slice A0_2 l0_2.length c0_2,.slice A0_3 l0_3.length c0_3] 29 (0,0)) (by exact kZ_ BK114) hg (by simp [Value.ownBlock]));have n1_:=aM_ (hb);have n2_:=aM_ (ho);clear BK114 HB;have BK114:=n0_;have HB:=n1_;have HO120:=n2_;clear n0_ n1_ n2_ ho hb hg hat))
    go_meet
    case rel=>exact ⟨_,(y118),H', ⟨by first | omega | exact Nat.le_refl _⟩,⟨by exact rZ_ HO120⟩,⟨by exact kZ_ BK114⟩,⟨by exact bZ_ HB⟩⟩
   ·rw [if_neg c8] at H
    exact absurd H (by simp)
 case rest =>
  clear HC2 hcz4_0 hcz4_1 hcz4_2 hcz4_3 hfz4_0 hfz4_1 hfz4_2 hfz4_3
  obtain ⟨kq,x3_1,HA,HJ1,HO_3,BK114,HB⟩:=hcut
  cases kq with
  | zero=>exact absurd HA.out (by simp [impl_bodyOf.j0])
  | succ kj1 =>
   have H:=HA.out
   clear HA
   simp only [impl_bodyOf.j0] at H
   replace H:=oB_ H
   obtain ⟨t121,A100,H⟩:=H
   replace H : (impl_bodyOf.l0 kj1 t121 l0_1 (l0_1.length : Int) 0 a0_0 l0_1 l0_2 l0_3) = some r:=H
   have A10:=aM_ A100
   clear A100
   have H':=aM_ H
   clear H
   have hcz11_0 : wc.cell? ⟨gb114,0,none⟩ = some (.bool a0_0):=(kC_ BK114.out 0).trans rfl
   have hcz11_1 : wc.cell? ⟨gb114,1,none⟩ = some (.slice A0_1 l0_1.length c0_1):=(kC_ BK114.out 1).trans rfl
   have hcz11_2 : wc.cell? ⟨gb114,2,none⟩ = some (.slice A0_2 l0_2.length c0_2):=(kC_ BK114.out 2).trans rfl
   have hcz11_3 : wc.cell? ⟨gb114,3,none⟩ = some (.slice A0_3 l0_3.length c0_3):=(kC_ BK114.out 3).trans rfl
   have hfz11_0:=kF_ BK114.out 0
   have hfz11_1:=kF_ BK114.out 1
   have hfz11_2:=kF_ BK114.out 2
   have hfz11_3:=kF_ BK114.out 3
   obtain ⟨Ao12,co12,eo12⟩:=Kd.R_slice HO_3.out
   subst eo12
   go_wp2_with (first | ((with_reducible refine gate_callee (f:=99) rfl ?_);refine goesL_ (some 22) rfl rfl Try.func99 (by kernel_rfl) rfl #[.slice Ao12 x3_1.length co12,.int .i64 (l0_1.length : Int)] rfl (by (try simp only [mA_,mC_,mN_]);first | done | rfl | (simp only [lD_,lT_];rfl)) ?_;(with_reducible refine (impl_addU.calls kj1 (fun k_=>some k_ = (.slice Ao12 x3_1.length co12 : Value).ownBlock) (.slice Ao12 x3_1.length co12) x3_1 (l0_1.length : Int) t121 w _ ?side1 ?side2 A10.out).mono ?_);(case side1=>exact bZ_ HB);(case side2=>exact Kd.R_tight rfl HO_3.out);rintro e w13 ⟨v122,rfl,ho0,hb,hkp⟩;refine ⟨_,rfl,?_⟩;have n0_:=aM_ (blk_kept (by exact kZ_ BK114) hkp (fun hs_=>(fun e_=>(Kd.R_ne HO_3.out BK114.out (by decide)) e_) hs_));have n1_:=aM_ (Kd.R_mono (ok':=fun k_=>True) ho0 (fun k_ hk_=>trivial));have n2_:=aM_ (hb);clear BK114 HB HO_3;have BK114:=n0_;have HO123:=n1_;have HB:=n2_;clear n0_ n1_ n2_ hb hkp ho0;have hcz14_0 : w13.cell? ⟨gb114,0,none⟩ = some (.bool a0_0):=(kC_ BK114.out 0).trans rfl;have hcz14_1 : w13.cell? ⟨gb114,1,none⟩ = some (.slice A0_1 l0_1.length c0_1):=(kC_ BK114.out 1).trans rfl;have hcz14_2 : w13.cell? ⟨gb114,2,none⟩ = some (.slice A0_2 l0_2.length c0_2):=(kC_ BK114.out 2).trans rfl;have hcz14_3 : w13.cell? ⟨gb114,3,none⟩ = some (.slice A0_3 l0_3.length c0_3):=(kC_ BK114.out 3).trans rfl;have hfz14_0:=kF_ BK114.out 0;have hfz14_1:=kF_ BK114.out 1;have hfz14_2:=kF_ BK114.out 2;have hfz14_3:=kF_ BK114.out 3))
   (try simp only [Act.put,sI_,sS_,sZ_])
   go_loopg [3,26] kj1 (fun kq v3 v26 w'=>∃ (x3_2 : List Int) (x26_2 : Int),v26 = .int .i64 x26_2 ∧ Aside0 (impl_bodyOf.l0 kq x3_2 l0_1 (l0_1.length : Int) x26_2 a0_0 l0_1 l0_2 l0_3 = some r) ∧ Aside0 (kq ≤ kj1) ∧ Aside0 (Kd.R (Kd.int .u8) 5 w' w.heap.size (fun _=>True) v3 x3_2) ∧ Aside0 (w'.heap[gb114]? = some (.cells #[.bool a0_0,(.slice A0_1 l0_1.length c0_1),(.slice A0_2 l0_2.length c0_2),(.slice A0_3 l0_3.length c0_3)] 29 (0,0))) ∧ Aside0 (Below w.heap.size w w'))
   case atStart=>exact ⟨(t121),(0),(by first | rfl | (simp;done) | (simp [*];done)),H', ⟨Nat.le_refl _⟩,⟨by exact rZ_ HO123⟩,⟨by exact kZ_ BK114⟩,⟨by exact bZ_ HB⟩⟩
   case round =>
    clear H'
    clear hcz11_0 hcz11_1 hcz11_2 hcz11_3 hcz14_0 hcz14_1 hcz14_2 hcz14_3 hfz11_0 hfz11_1 hfz11_2 hfz11_3 hfz14_0 hfz14_1 hfz14_2 hfz14_3
    obtain ⟨x3_2,x26_2,rfl,HA,HK2,HO_3,BK114,HB⟩:=hrel
    cases gk with
    | zero=>exact absurd HA.out (by simp [impl_bodyOf.l0])
    | succ k2 =>
     have H:=HA.out
     clear HA
     simp only [impl_bodyOf.l0] at H
     by_cases c15 : x26_2 < (l0_1.length : Int)
     ·rw [if_pos c15] at H
      have c15b0 : decide (x26_2 < (l0_1.length : Int)) = true:=decide_eq_true c15
      clear c15
      by_cases c16 : 0 ≤ x26_2
      ·rw [if_pos c16] at H
       have c16b0 : decide (0 ≤ x26_2) = true:=decide_eq_true c16
       clear c16
       by_cases c17 : x26_2 < (l0_1.length : Int)
       ·rw [if_pos c17] at H
        have c17b0 : decide (x26_2 < (l0_1.length : Int)) = true:=decide_eq_true c17
        clear c17
        replace H:=oB_ H
        obtain ⟨t125,A180,H⟩:=H
        replace H : (impl_bodyOf.l0 k2 t125 l0_1 (l0_1.length : Int) (wrap64 (x26_2 + 1)) a0_0 l0_1 l0_2 l0_3) = some r:=H
        have A18:=aM_ A180
        clear A180
        have H':=aM_ H
        clear H
        have p124 : 0 ≤ (x26_2 : Int):=oT_ (by first | (with_reducible assumption) | assumption)
        have q124 : x26_2 < (l0_1.length : Int):=oT_ (by first | (with_reducible assumption) | assumption)
        obtain ⟨ad124,e124,hx124_0⟩:=Kd.at_string HR0_1.out x26_2 p124 q124
        cases e124
        replace hx124_0:=(HB.out.cell (wL_ w _ hx124_0)).trans hx124_0
        replace p124:=eq_true p124
        replace q124:=eq_true q124
        obtain ⟨Ao19,co19,eo19⟩:=Kd.R_slice HO_3.out
        subst eo19
        go_wp2_with (first | ((with_reducible refine gate_callee (f:=101) rfl ?_);refine goesL_ (some 32) rfl rfl Try.func101 (by kernel_rfl) rfl #[.slice Ao19 x3_2.length co19,.string (rdOf ByteArray.empty l0_1 x26_2)] rfl (by (try simp only [mA_,mC_,mN_]);first | done | rfl | (simp only [lD_,lT_];rfl)) ?_;(with_reducible refine (impl_addText.calls k2 (fun k_=>some k_ = (.slice Ao19 x3_2.length co19 : Value).ownBlock) (.slice Ao19 x3_2.length co19) x3_2 (rdOf ByteArray.empty l0_1 x26_2) t125 w _ ?side1 ?side2 A18.out).mono ?_);(case side1=>exact bZ_ HB);(case side2=>exact Kd.R_tight rfl HO_3.out);rintro e w20 ⟨v126,rfl,ho0,hb,hkp⟩;refine ⟨_,rfl,?_⟩;have n0_:=aM_ (blk_kept (by exact kZ_ BK114) hkp (fun hs_=>(fun e_=>(Kd.R_ne HO_3.out BK114.out (by decide)) e_) hs_));have n1_:=aM_ (Kd.R_mono (ok':=fun k_=>True) ho0 (fun k_ hk_=>trivial));have n2_:=aM_ (hb);clear BK114 HB HO_3;have BK114:=n0_;have HO127:=n1_;have HB:=n2_;clear n0_ n1_ n2_ hb hkp ho0))
        go_roundg k2
        case measure=>have:=HJ1.out;have:=HK2.out;omega
        case rel=>exact ⟨(t125),(wrap64 (x26_2 + 1)),(by first | rfl | (simp;done) | (simp [*];done)),H', ⟨by have:=HJ1.out;have:=HK2.out;omega⟩,⟨by exact rZ_ HO127⟩,⟨by exact kZ_ BK114⟩,⟨by exact bZ_ HB⟩⟩
       ·rw [if_neg c17] at H
        exact absurd H (by simp)
      ·rw [if_neg c16] at H
       exact absurd H (by simp)
     ·rw [if_neg c15] at H
      have c15b0 : decide (x26_2 < (l0_1.length : Int)) = false:=decide_eq_false c15
      clear c15
      by_cases c21 : a0_0 = true
      ·subst c21
       have H1 : (impl_bodyOf.l1 k2 x3_2 l0_2 (l0_2.length : Int) 0) = some r:=by rw [if_pos rfl] at H;exact H
       clear H
       have H:=H1
       clear H1
       have H':=aM_ H
       clear H
       have hcz22_0 : wr.cell? ⟨gb114,0,none⟩ = some (.bool true):=(kC_ BK114.out 0).trans rfl
       have hcz22_1 : wr.cell? ⟨gb114,1,none⟩ = some (.slice A0_1 l0_1.length c0_1):=(kC_ BK114.out 1).trans rfl
       have hcz22_2 : wr.cell? ⟨gb114,2,none⟩ = some (.slice A0_2 l0_2.length c0_2):=(kC_ BK114.out 2).trans rfl
       have hcz22_3 : wr.cell? ⟨gb114,3,none⟩ = some (.slice A0_3 l0_3.length c0_3):=(kC_ BK114.out 3).trans rfl
       have hfz22_0:=kF_ BK114.out 0
       have hfz22_1:=kF_ BK114.out 1
       have hfz22_2:=kF_ BK114.out 2
       have hfz22_3:=kF_ BK114.out 3
       go_wp2
       (try simp only [Act.put,sI_,sS_,sZ_])
       go_loopg [3,39] k2 (fun kq v3 v39 w'=>∃ (x3_3 : List Int) (x39_3 : Int),v39 = .int .i64 x39_3 ∧ Aside0 (impl_bodyOf.l1 kq x3_3 l0_2 (l0_2.length : Int) x39_3 = some r) ∧ Aside0 (kq ≤ k2) ∧ Aside0 (Kd.R (Kd.int .u8) 5 w' w.heap.size (fun _=>True) v3 x3_3) ∧ Aside0 (w'.heap[gb114]? = some (.cells #[.bool true,(.slice A0_1 l0_1.length c0_1),(.slice A0_2 l0_2.length c0_2),(.slice A0_3 l0_3.length c0_3)] 29 (0,0))) ∧ Aside0 (Below w.heap.size w w'))
       case atStart=>exact ⟨(x3_2),(0),(by first | rfl | (simp;done) | (simp [*];done)),H', ⟨Nat.le_refl _⟩,⟨by exact rZ_ HO_3⟩,⟨by exact kZ_ BK114⟩,⟨by exact bZ_ HB⟩⟩
       case round =>
        clear H'
        clear c15b0 hcz22_0 hcz22_1 hcz22_2 hcz22_3 hfz22_0 hfz22_1 hfz22_2 hfz22_3
        obtain ⟨x3_3,x39_3,rfl,HA,HK3,HO_3,BK114,HB⟩:=hrel
        cases gk with
        | zero=>exact absurd HA.out (by simp [impl_bodyOf.l1])
        | succ k3 =>
         have H:=HA.out
         clear HA
         simp only [impl_bodyOf.l1] at H
         by_cases c23 : x39_3 < (l0_2.length : Int)
         ·rw [if_pos c23] at H
          have c23b0 : decide (x39_3 < (l0_2.length : Int)) = true:=decide_eq_true c23
          clear c23
          by_cases c24 : 0 ≤ x39_3
          ·rw [if_pos c24] at H
           have c24b0 : decide (0 ≤ x39_3) = true:=decide_eq_true c24
           clear c24
           by_cases c25 : x39_3 < (l0_2.length : Int)
           ·rw [if_pos c25] at H
            have c25b0 : decide (x39_3 < (l0_2.length : Int)) = true:=decide_eq_true c25
            clear c25
            replace H:=oB_ H
            obtain ⟨t129,A260,H⟩:=H
            replace H : (impl_bodyOf.l1 k3 t129 l0_2 (l0_2.length : Int) (wrap64 (x39_3 + 1))) = some r:=H
            have A26:=aM_ A260
            clear A260
            have H':=aM_ H
            clear H
            have p128 : 0 ≤ (x39_3 : Int):=oT_ (by first | (with_reducible assumption) | assumption)
            have q128 : x39_3 < (l0_2.length : Int):=oT_ (by first | (with_reducible assumption) | assumption)
            obtain ⟨ad128,e128,hx128_0⟩:=Kd.at_string HR0_2.out x39_3 p128 q128
            cases e128
            replace hx128_0:=(HB.out.cell (wL_ w _ hx128_0)).trans hx128_0
            replace p128:=eq_true p128
            replace q128:=eq_true q128
            obtain ⟨Ao27,co27,eo27⟩:=Kd.R_slice HO_3.out
            subst eo27
            go_wp2_with (first | ((with_reducible refine gate_callee (f:=101) rfl ?_);refine goesL_ (some 45) rfl rfl Try.func101 (by kernel_rfl) rfl #[.slice Ao27 x3_3.length co27,.string (rdOf ByteArray.empty l0_2 x39_3)] rfl (by (try simp only [mA_,mC_,mN_]);first | done | rfl | (simp only [lD_,lT_];rfl)) ?_;(with_reducible refine (impl_addText.calls k3 (fun k_=>some k_ = (.slice Ao27 x3_3.length co27 : Value).ownBlock) (.slice Ao27 x3_3.length co27) x3_3 (rdOf ByteArray.empty l0_2 x39_3) t129 w _ ?side1 ?side2 A26.out).mono ?_);(case side1=>exact bZ_ HB);(case side2=>exact Kd.R_tight rfl HO_3.out);rintro e w28 ⟨v130,rfl,ho0,hb,hkp⟩;refine ⟨_,rfl,?_⟩;have n0_:=aM_ (blk_kept (by exact kZ_ BK114) hkp (fun hs_=>(fun e_=>(Kd.R_ne HO_3.out BK114.out (by decide)) e_) hs_));have n1_:=aM_ (Kd.R_mono (ok':=fun k_=>True) ho0 (fun k_ hk_=>trivial));have n2_:=aM_ (hb);clear BK114 HB HO_3;have BK114:=n0_;have HO131:=n1_;have HB:=n2_;clear n0_ n1_ n2_ hb hkp ho0))
            go_roundg k3
            case measure=>have:=HJ1.out;have:=HK2.out;have:=HK3.out;omega
            case rel=>exact ⟨(t129),(wrap64 (x39_3 + 1)),(by first | rfl | (simp;done) | (simp [*];done)),H', ⟨by have:=HJ1.out;have:=HK2.out;have:=HK3.out;omega⟩,⟨by exact rZ_ HO131⟩,⟨by exact kZ_ BK114⟩,⟨by exact bZ_ HB⟩⟩
           ·rw [if_neg c25] at H
            exact absurd H (by simp)
          ·rw [if_neg c24] at H
           exact absurd H (by simp)
         ·rw [if_neg c23] at H
          have c23b0 : decide (x39_3 < (l0_2.length : Int)) = false:=decide_eq_false c23
          clear c23
          obtain rfl:=Option.some.inj H
          go_wp2
          go_ret
          exact ⟨_,by first | rfl | (simp [errW_none,errW_some] <;> rfl) | (simp [*, errW_none,errW_some] <;> rfl),by exact rZ_ HO_3,by exact bZ_ HB⟩
      ·replace c21:=Bool.eq_false_iff.mpr c21
       subst c21
       have H1 : (impl_bodyOf.l2 k2 x3_2 l0_3 (l0_3.length : Int) 0) = some r:=by rw [if_neg (show ¬ (false = true) by decide)] at H;exact H
       clear H
       have H:=H1
       clear H1
       have H':=aM_ H
       clear H
       have hcz29_0 : wr.cell? ⟨gb114,0,none⟩ = some (.bool false):=(kC_ BK114.out 0).trans rfl
       have hcz29_1 : wr.cell? ⟨gb114,1,none⟩ = some (.slice A0_1 l0_1.length c0_1):=(kC_ BK114.out 1).trans rfl
       have hcz29_2 : wr.cell? ⟨gb114,2,none⟩ = some (.slice A0_2 l0_2.length c0_2):=(kC_ BK114.out 2).trans rfl
       have hcz29_3 : wr.cell? ⟨gb114,3,none⟩ = some (.slice A0_3 l0_3.length c0_3):=(kC_ BK114.out 3).trans rfl
       have hfz29_0:=kF_ BK114.out 0
       have hfz29_1:=kF_ BK114.out 1
       have hfz29_2:=kF_ BK114.out 2
       have hfz29_3:=kF_ BK114.out 3
       go_wp2
       (try simp only [Act.put,sI_,sS_,sZ_])
       go_loopg [3,51] k2 (fun kq v3 v51 w'=>∃ (x3_3 : List Int) (x51_3 : Int),v51 = .int .i64 x51_3 ∧ Aside0 (impl_bodyOf.l2 kq x3_3 l0_3 (l0_3.length : Int) x51_3 = some r) ∧ Aside0 (kq ≤ k2) ∧ Aside0 (Kd.R (Kd.int .u8) 5 w' w.heap.size (fun _=>True) v3 x3_3) ∧ Aside0 (w'.heap[gb114]? = some (.cells #[.bool false,(.slice A0_1 l0_1.length c0_1),(.slice A0_2 l0_2.length c0_2),(.slice A0_3 l0_3.length c0_3)] 29 (0,0))) ∧ Aside0 (Below w.heap.size w w'))
       case atStart=>exact ⟨(x3_2),(0),(by first | rfl | (simp;done) | (simp [*];done)),H', ⟨Nat.le_refl _⟩,⟨by exact rZ_ HO_3⟩,⟨by exact kZ_ BK114⟩,⟨by exact bZ_ HB⟩⟩
       case round =>
        clear H'
        clear c15b0 hcz29_0 hcz29_1 hcz29_2 hcz29_3 hfz29_0 hfz29_1 hfz29_2 hfz29_3
        obtain ⟨x3_3,x51_3,rfl,HA,HK3,HO_3,BK114,HB⟩:=hrel
        cases gk with
        | zero=>exact absurd HA.out (by simp [impl_bodyOf.l2])
        | succ k3 =>
         have H:=HA.out
         clear HA
         simp only [impl_bodyOf.l2] at H
         by_cases c30 : x51_3 < (l0_3.length : Int)
         ·rw [if_pos c30] at H
          have c30b0 : decide (x51_3 < (l0_3.length : Int)) = true:=decide_eq_true c30
          clear c30
          by_cases c31 : 0 ≤ x51_3
          ·rw [if_pos c31] at H
           have c31b0 : decide (0 ≤ x51_3) = true:=decide_eq_true c31
           clear c31
           by_cases c32 : x51_3 < (l0_3.length : Int)
           ·rw [if_pos c32] at H
            have c32b0 : decide (x51_3 < (l0_3.length : Int)) = true:=decide_eq_true c32
            clear c32
            replace H:=oB_ H
            obtain ⟨t133,A330,H⟩:=H
            replace H : (impl_bodyOf.l2 k3 t133 l0_3 (l0_3.length : Int) (wrap64 (x51_3 + 1))) = some r:=H
            have A33:=aM_ A330
            clear A330
            have H':=aM_ H
            clear H
            have p132 : 0 ≤ (x51_3 : Int):=oT_ (by first | (with_reducible assumption) | assumption)
            have q132 : x51_3 < (l0_3.length : Int):=oT_ (by first | (with_reducible assumption) | assumption)
            obtain ⟨ad132,e132,hx132_0⟩:=Kd.at_int HR0_3.out x51_3 p132 q132
            cases e132
            replace hx132_0:=(HB.out.cell (wL_ w _ hx132_0)).trans hx132_0
            replace p132:=eq_true p132
            replace q132:=eq_true q132
            obtain ⟨Ao34,co34,eo34⟩:=Kd.R_slice HO_3.out
            subst eo34
            go_wp2_with (first | ((with_reducible refine gate_callee (f:=99) rfl ?_);refine goesL_ (some 57) rfl rfl Try.func99 (by kernel_rfl) rfl #[.slice Ao34 x3_3.length co34,.int .i64 (rd l0_3 x51_3)] rfl (by (try simp only [mA_,mC_,mN_]);first | done | rfl | (simp only [lD_,lT_];rfl)) ?_;(with_reducible refine (impl_addU.calls k3 (fun k_=>some k_ = (.slice Ao34 x3_3.length co34 : Value).ownBlock) (.slice Ao34 x3_3.length co34) x3_3 (rd l0_3 x51_3) t133 w _ ?side1 ?side2 A33.out).mono ?_);(case side1=>exact bZ_ HB);(case side2=>exact Kd.R_tight rfl HO_3.out);rintro e w35 ⟨v134,rfl,ho0,hb,hkp⟩;refine ⟨_,rfl,?_⟩;have n0_:=aM_ (blk_kept (by exact kZ_ BK114) hkp (fun hs_=>(fun e_=>(Kd.R_ne HO_3.out BK114.out (by decide)) e_) hs_));have n1_:=aM_ (Kd.R_mono (ok':=fun k_=>True) ho0 (fun k_ hk_=>trivial));have n2_:=aM_ (hb);clear BK114 HB HO_3;have BK114:=n0_;have HO135:=n1_;have HB:=n2_;clear n0_ n1_ n2_ hb hkp ho0))
            go_roundg k3
            case measure=>have:=HJ1.out;have:=HK2.out;have:=HK3.out;omega
            case rel=>exact ⟨(t133),(wrap64 (x51_3 + 1)),(by first | rfl | (simp;done) | (simp [*];done)),H', ⟨by have:=HJ1.out;have:=HK2.out;have:=HK3.out;omega⟩,⟨by exact rZ_ HO135⟩,⟨by exact kZ_ BK114⟩,⟨by exact bZ_ HB⟩⟩
           ·rw [if_neg c32] at H
            exact absurd H (by simp)
          ·rw [if_neg c31] at H
           exact absurd H (by simp)
         ·rw [if_neg c30] at H
          have c30b0 : decide (x51_3 < (l0_3.length : Int)) = false:=decide_eq_false c30
          clear c30
          obtain rfl:=Option.some.inj H
          go_wp2
          go_ret
          exact ⟨_,by first | rfl | (simp [errW_none,errW_some] <;> rfl) | (simp [*, errW_none,errW_some] <;> rfl),by exact rZ_ HO_3,by exact bZ_ HB⟩
def impl_SizeOf.f (k : Nat) (a0_0 : Bool) (l0_1 : List ByteArray) (l0_2 : List ByteArray) (l0_3 : List Int) : Option (Int):=(impl_bodyOf.f k a0_0 l0_1 l0_2 l0_3).bind fun t137=>(some (t137.length : Int))
theorem impl_SizeOf.mono : ∀ a0 a1 a2 a3 k,LeO (impl_SizeOf.f k a0 a1 a2 a3) (impl_SizeOf.f (k + 1) a0 a1 a2 a3):=by
 intro a0 a1 a2 a3 k
 unfold impl_SizeOf.f
 repeat' first
   | (with_reducible exact impl_bodyOf.mono _ _ _ _ _)
   | (with_reducible exact LeO.refl _)
   | (with_reducible exact LeO.none _)
   | (with_reducible refine LeO.ite ?_ ?_)
   | (with_reducible refine LeO.bind ?_ (fun _=>?_))
   | exact impl_bodyOf.mono _ _ _ _ _
   | exact LeO.none _
   | refine LeO.ite ?_ ?_
   | refine LeO.bind ?_ (fun _=>?_)
set_option maxHeartbeats 8000000 in
set_option maxRecDepth 100000 in
theorem impl_SizeOf.calls (k : Nat) (a0_0 : Bool) (A0_1 : Option Addr) (c0_1 : Nat) (l0_1 : List ByteArray) (A0_2 : Option Addr) (c0_2 : Nat) (l0_2 : List ByteArray) (A0_3 : Option Addr) (c0_3 : Nat) (l0_3 : List Int) (r : Int) (w : World) (hr0_1 : Kd.C Kd.string w A0_1 l0_1.length l0_1) (hc0_1 : l0_1.length ≤ c0_1) (hr0_2 : Kd.C Kd.string w A0_2 l0_2.length l0_2) (hc0_2 : l0_2.length ≤ c0_2) (hr0_3 : Kd.C (Kd.int .i64) w A0_3 l0_3.length l0_3) (hc0_3 : l0_3.length ≤ c0_3) (h : impl_SizeOf.f k a0_0 l0_1 l0_2 l0_3 = some r) :
  Calls Try.prog 30 #[.agg #[.bool a0_0,.slice A0_1 l0_1.length c0_1,.slice A0_2 l0_2.length c0_2,.slice A0_3 l0_3.length c0_3]] w fun e w'=>e = .returned (.int .i64 r) ∧ Below w.heap.size w w':=by
 have hu29:=Try.underlying29
 have HR0_1:=aM_ hr0_1
 have HC0_1:=aM_ hc0_1
 clear hr0_1 hc0_1
 have HR0_2:=aM_ hr0_2
 have HC0_2:=aM_ hc0_2
 clear hr0_2 hc0_2
 have HR0_3:=aM_ hr0_3
 have HC0_3:=aM_ hc0_3
 clear hr0_3 hc0_3
 have HB:=aM_ (Below.refl w.heap.size w)
 have H : ((impl_bodyOf.f k a0_0 l0_1 l0_2 l0_3).bind fun t137=>(some (t137.length : Int))) = some r:=h
 clear h
 replace H:=oB_ H
 obtain ⟨t137,A20,H⟩:=H
 replace H : (some (t137.length : Int)) = some r:=H
 have A2:=aM_ A20
 clear A20
 obtain rfl:=Option.some.inj H
 go_enter Try.func30,Try.ntmps30
 go_wp2_with (first | ((with_reducible refine gate_dst (N:=1) rfl ?_);refine box_event ?hg (N:=1) ?hd (cs:=#[.bool a0_0,.slice A0_1 l0_1.length c0_1,.slice A0_2 l0_2.length c0_2,.slice A0_3 l0_3.length c0_3]) (t:=29) ?hr ?_;(case hd=>rfl);(case hg=>rfl);(case hr=>first | (go_simp;done) | (go_simp;rfl));intro gb136 hg w3 hbox hb;have n0_:=aM_ (bT_ (by exact bZ_ HB) hb);have n1_:=aM_ (hbox);have n2_:=aM_ ((by rw [hg];exact (bS_ (by exact bZ_ HB)) : w.heap.size ≤ gb136));have n3_:=aM_ ((by rw [hg];exact (bS_ (by exact bZ_ HB)) : w.heap.size ≤ gb136));clear HB;have HB:=n0_;have BK136:=n1_;have GW136:=n2_;have GE136:=n3_;clear n0_ n1_ n2_ n3_ hb hbox hg;have hcz4_0 : w3.cell? ⟨gb136,0,none⟩ = some (.bool a0_0):=(kC_ BK136.out 0).trans rfl;have hcz4_1 : w3.cell? ⟨gb136,1,none⟩ = some (.slice A0_1 l0_1.length c0_1):=(kC_ BK136.out 1).trans rfl;have hcz4_2 : w3.cell? ⟨gb136,2,none⟩ = some (.slice A0_2 l0_2.length c0_2):=(kC_ BK136.out 2).trans rfl;have hcz4_3 : w3.cell? ⟨gb136,3,none⟩ = some (.slice A0_3 l0_3.length c0_3):=(kC_ BK136.out 3).trans rfl;have hfz4_0:=kF_ BK136.out 0;have hfz4_1:=kF_ BK136.out 1;have hfz4_2:=kF_ BK136.out 2;have hfz4_3:=kF_ BK136.out 3) | ((with_reducible refine gate_callee (f:=71) rfl ?_);refine goesL_ (some 4) rfl rfl Try.func71 (by kernel_rfl) rfl #[.agg #[.bool a0_0,.slice A0_1 l0_1.length c0_1,.slice A0_2 l0_2.length c0_2,.slice A0_3 l0_3.length c0_3]] rfl (by (try simp only [mA_,mC_,mN_]);first | done | rfl | (simp only [lD_,lT_];rfl)) ?_;(with_reducible refine (impl_bodyOf.calls k a0_0 _ _ l0_1 _ _ l0_2 _ _ l0_3 t137 _ ?side1 ?side2 ?side3 ?side4 ?side5 ?side6 A2.out).mono ?_);(case side1=>repeat (first | exact (Kd.C_below HR0_1.out HB.out) | (with_reducible refine cA_ ?_ _) | (with_reducible refine cN_ ?_ _) | (with_reducible refine cD_ ?_)));(case side2=>exact HC0_1.out);(case side3=>repeat (first | exact (Kd.C_below HR0_2.out HB.out) | (with_reducible refine cA_ ?_ _) | (with_reducible refine cN_ ?_ _) | (with_reducible refine cD_ ?_)));(case side4=>exact HC0_2.out);(case side5=>repeat (first | exact (Kd.C_below HR0_3.out HB.out) | (with_reducible refine cA_ ?_ _) | (with_reducible refine cN_ ?_ _) | (with_reducible refine cD_ ?_)));(case side6=>exact HC0_3.out);rintro e w5 ⟨v138,rfl,ho0,hb⟩;refine ⟨_,rfl,?_⟩;have n0_:=aM_ (Kd.R_lower ho0 (bS_ (by exact bZ_ HB)));have n1_:=aM_ (blk_below (g:=gb136) (o:=.cells #[.bool a0_0,.slice A0_1 l0_1.length c0_1,.slice A0_2 l0_2.length c0_2,.slice A0_3 l0_3.length c0_3] 29 (0,0)) (by exact kZ_ BK136) hb);have n2_:=aM_ (bT_ (by exact bZ_ HB) hb);clear BK136 HB;have HO139:=n0_;have BK136:=n1_;have HB:=n2_;clear n0_ n1_ n2_ hb ho0;obtain ⟨Ao6,co6,eo6⟩:=Kd.R_slice HO139.out;subst eo6))
 go_ret
 exact ⟨by first | rfl | (simp [errW_none,errW_some] <;> rfl) | (simp [*, errW_none,errW_some] <;> rfl),by exact bZ_ HB⟩
def impl_in.f (a0 : Int) (a1 : Int) (a2 : Int) : Option (Bool):=if a0 ≥ a1 then (some (decide (a0 ≤ a2))) else (some false)
set_option maxHeartbeats 8000000 in
set_option maxRecDepth 100000 in
theorem impl_in.calls (a0 : Int) (a1 : Int) (a2 : Int) (r : Bool) (w : World) (h : impl_in.f a0 a1 a2 = some r) :
  Calls Try.prog 79 #[.int .i64 a0,.int .i64 a1,.int .i64 a2] w fun e w'=>e = .returned (.bool r) ∧ Drawn0 w w':=by
 have H : (if a0 ≥ a1 then (some (decide (a0 ≤ a2))) else (some false)) = some r:=h
 clear h
 by_cases c4 : a0 ≥ a1
 ·rw [if_pos c4] at H
  have c4b0 : decide (a1 ≤ a0) = true:=decide_eq_true c4
  clear c4
  obtain rfl:=Option.some.inj H
  go_enter Try.func79,Try.ntmps79
  go_wp2
  go_ret
  exact ⟨by first | rfl | (simp;done) | (simp [*];done),by repeat (first | exact Drawn0.refl _ | apply Drawn0.step)⟩
 ·rw [if_neg c4] at H
  have c4b0 : decide (a1 ≤ a0) = false:=decide_eq_false c4
  clear c4
  obtain rfl:=Option.some.inj H
  go_enter Try.func79,Try.ntmps79
  go_wp2
  go_ret
  exact ⟨by first | rfl | (simp;done) | (simp [*];done),by repeat (first | exact Drawn0.refl _ | apply Drawn0.step)⟩
def impl_isSector.f (a0 : Int) : Option (Bool):=(impl_in.f a0 2 47).bind fun t140=>(some t140)
set_option maxHeartbeats 8000000 in
set_option maxRecDepth 100000 in
theorem impl_isSector.calls (a0 : Int) (r : Bool) (w : World) (h : impl_isSector.f a0 = some r) :
  Calls Try.prog 87 #[.int .i64 a0] w fun e w'=>e = .returned (.bool r) ∧ Drawn0 w w':=by
 have H : ((impl_in.f a0 2 47).bind fun t140=>(some t140)) = some r:=h
 clear h
 replace H:=oB_ H
 obtain ⟨t140,A20,H⟩:=H
 replace H : (some t140) = some r:=H
 have A2:=aM_ A20
 clear A20
 obtain rfl:=Option.some.inj H
 go_enter Try.func87,Try.ntmps87
 go_wp2_with (first | ((with_reducible refine gate_callee (f:=79) rfl ?_);refine goesL_ (some 4) rfl rfl Try.func79 (by kernel_rfl) rfl #[.int .i64 a0,.int .i64 2,.int .i64 47] rfl (by (try simp only [mA_,mC_,mN_]);first | done | rfl | (simp only [lD_,lT_];rfl)) ?_;(with_reducible refine (impl_in.calls a0 2 47 t140 _ A2.out).mono ?_);rintro e w' ⟨rfl,⟨nd,rfl⟩⟩;refine ⟨_,rfl,?_⟩))
 go_ret
 exact ⟨by first | rfl | (simp;done) | (simp [*];done),by repeat (first | exact Drawn0.refl _ | apply Drawn0.step)⟩
end Go.Proofs.Ytllgmgpfdnofmaa.PFnNodes
