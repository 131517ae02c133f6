import Derived.Test.YtllgmgpfdnofmaaZRRPFnRowsReadx0
import Derived.Test.YtllgmgpfdnofmaaZRRPFnRowsReadx3
namespace Go.Proofs.Ytllgmgpfdnofmaa.PFnRowsRead
open Go.RowKit Go.Proofs.YtllgmgpfdnofmaaW.PrintWords Go.Proofs.YtllgmgpfdnofmaaW.PrintLast Go.Proofs.YtllgmgpfdnofmaaW.PrintMore Go.Proofs.Ytllgmgpfdnofmaa.Xtra
attribute [local go_sem] max2_int min2_int max_two min_two max_three min_three max_four min_four str_leq str_gtr str_geq setCell_drewN cell_set2 cell_set3   -- for this text's walks alone
set_option linter.unusedVariables false
set_option linter.unusedSimpArgs false
def impl_copyBytes.f (l0 : List Int) : Option (List Int):=if ([] : List Int).length + l0.length < 140737488355328 then (some (([] : List Int) ++ l0)) else (none)
set_option maxHeartbeats 8000000 in
set_option maxRecDepth 100000 in
theorem impl_copyBytes.calls (A0 : Option Addr) (c0 : Nat) (l0 : List Int) (r : List Int) (w : World) (hr0 : Kd.C (Kd.int .u8) w A0 l0.length l0) (hc0 : l0.length ≤ c0) (h : impl_copyBytes.f l0 = some r) :
  Calls Try.prog 163 #[.slice A0 l0.length c0] w fun e w'=>∃ v0_ : Value,e = .returned (v0_) ∧ Kd.R (Kd.int .u8) 5 w' w.heap.size (fun _=>True) v0_ r ∧ Below w.heap.size w w':=by
 have HR0:=aM_ hr0
 have HC0:=aM_ hc0
 clear hr0 hc0
 have HB:=aM_ (Below.refl w.heap.size w)
 have H : (if ([] : List Int).length + l0.length < 140737488355328 then (some (([] : List Int) ++ l0)) else (none)) = some r:=h
 clear h
 by_cases c2 : ([] : List Int).length + l0.length < 140737488355328
 ·rw [if_pos c2] at H
  have LMc2:=aM_ c2
  clear c2
  obtain ⟨y183,hy183⟩ : ∃ y_ : List Int,y_ = (([] : List Int) ++ l0):=⟨_,rfl⟩
  replace H : (some y183) = some r:=by first | (rw [hy183];with_reducible exact H) | (have H2_:=(Option.bind_some _ _).symm.trans H;rw [hy183];with_reducible exact H2_) | (have H2_:=(Option.bind_some _ _).symm.trans H;with_reducible exact H2_) | with_reducible exact H | (rw [hy183];exact H) | exact H
  have Ny183:=aM_ hy183
  clear hy183
  obtain rfl:=Option.some.inj H
  go_enter Try.func163,Try.ntmps163
  go_wp2_with (first | ((with_reducible refine gate_builtin (b:=.append) (xs:=#[.const (.slice none 0 0),.tmp 3]) rfl ?_);at_builtin;refine Kd.R_append_rows (Kd.int .u8) (w0:=w) w.heap.size rfl (.const (.slice none 0 0)) (.tmp 3) 27 5 (.int .u8 0) 1 rfl Try.underlying27 info5 rfl (by decide) (by omega) (.slice none 0 0) ([] : List Int) l0 _ _ _ (fun _=>True) (fun _=>False) rfl rfl ?aO ?aR (fun _ _ h=>h) (fun _ h=>h.elim) ?aF ?aB ?aS ?aL ?_;(case aR=>repeat (first | exact HR0.out | (with_reducible refine cA_ ?_ _) | (with_reducible refine cN_ ?_ _) | (with_reducible refine cD_ ?_)));(case aB=>exact (by exact bZ_ HB));(case aF=>exact (fun _ _=>trivial));(case aO=>exact ((Kd.R_nil _ _ _ _ (fun _=>True))));(case aS=>exact (bS_ (by exact bZ_ HB)));(case aL=>have:=LMc2.out;omega);intro v184 w3 ho hb hg hat;rw [← Ny183.out] at ho;have n0_:=aM_ (hb);have n1_:=aM_ (ho);clear HB;have HB:=n0_;have HO185:=n1_;clear n0_ n1_;clear ho hb hg hat))
  go_ret
  exact ⟨_,by first | rfl | (simp [errW_none,errW_some] <;> rfl) | (simp [*, errW_none,errW_some] <;> rfl),by exact rZ_ HO185,by exact bZ_ HB⟩
 ·rw [if_neg c2] at H
  exact absurd H (by simp)
def impl_PutSum.f (k : Nat) (l0 : List Int) : Option (List Int):=(impl_copyBytes.f l0).bind fun t186=>((impl_addSum.f k t186).bind fun t189=>(some t189))
theorem impl_PutSum.mono : ∀ a0 k,LeO (impl_PutSum.f k a0) (impl_PutSum.f (k + 1) a0):=by
 intro a0 k
 unfold impl_PutSum.f
 repeat' first
   | (with_reducible exact impl_addSum.mono _ _)
   | (with_reducible exact LeO.refl _)
   | (with_reducible exact LeO.none _)
   | (with_reducible refine LeO.ite ?_ ?_)
   | (with_reducible refine LeO.bind ?_ (fun _=>?_))
   | exact impl_addSum.mono _ _
   | exact LeO.none _
   | refine LeO.ite ?_ ?_
   | refine LeO.bind ?_ (fun _=>?_)
set_option maxHeartbeats 8000000 in
set_option maxRecDepth 100000 in
theorem impl_PutSum.calls (k : Nat) (A0 : Option Addr) (c0 : Nat) (l0 : List Int) (r : List Int) (w : World) (hr0 : Kd.C (Kd.int .u8) w A0 l0.length l0) (hc0 : l0.length ≤ c0) (h : impl_PutSum.f k l0 = some r) :
  Calls Try.prog 164 #[.slice A0 l0.length c0] w fun e w'=>∃ v0_ : Value,e = .returned (v0_) ∧ Kd.R (Kd.int .u8) 5 w' w.heap.size (fun _=>True) v0_ r ∧ Below w.heap.size w w':=by
 have HR0:=aM_ hr0
 have HC0:=aM_ hc0
 clear hr0 hc0
 have HB:=aM_ (Below.refl w.heap.size w)
 have H : ((impl_copyBytes.f l0).bind fun t186=>((impl_addSum.f k t186).bind fun t189=>(some t189))) = some r:=h
 clear h
 replace H:=oB_ H
 obtain ⟨t186,A20,H⟩:=H
 replace H : ((impl_addSum.f k t186).bind fun t189=>(some t189)) = some r:=H
 have A2:=aM_ A20
 clear A20
 replace H:=oB_ H
 obtain ⟨t189,A30,H⟩:=H
 replace H : (some t189) = some r:=H
 have A3:=aM_ A30
 clear A30
 obtain rfl:=Option.some.inj H
 go_enter Try.func164,Try.ntmps164
 go_wp2_with (first | ((with_reducible refine gate_callee (f:=163) rfl ?_);refine goesL_ (some 4) rfl rfl Try.func163 (by kernel_rfl) rfl #[.slice A0 l0.length c0] rfl (by (try simp only [mA_,mC_,mN_]);first | done | rfl | (simp only [lD_,lT_];rfl)) ?_;(with_reducible refine (impl_copyBytes.calls _ _ l0 t186 _ ?side1 ?side2 A2.out).mono ?_);(case side1=>repeat (first | exact HR0.out | (with_reducible refine cA_ ?_ _) | (with_reducible refine cN_ ?_ _) | (with_reducible refine cD_ ?_)));(case side2=>exact HC0.out);rintro e w4 ⟨v187,rfl,ho0,hb⟩;refine ⟨_,rfl,?_⟩;have n0_:=aM_ (Kd.R_lower ho0 (bS_ (by exact bZ_ HB)));have n1_:=aM_ (bT_ (by exact bZ_ HB) hb);clear HB;have HO188:=n0_;have HB:=n1_;clear n0_ n1_;(try clear hb);(try clear hb2);(try clear hk);(try clear hi);(try clear ho0);obtain ⟨Ao5,co5,eo5⟩:=Kd.R_slice HO188.out;subst eo5) | ((with_reducible refine gate_callee (f:=102) rfl ?_);refine goesL_ (some 5) rfl rfl Try.func102 (by kernel_rfl) rfl #[.slice Ao5 t186.length co5] rfl (by (try simp only [mA_,mC_,mN_]);first | done | rfl | (simp only [lD_,lT_];rfl)) ?_;(with_reducible refine (impl_addSum.calls k (fun k_=>some k_ = (.slice Ao5 t186.length co5 : Value).ownBlock) (.slice Ao5 t186.length co5) t186 t189 w _ ?side1 ?side2 A3.out).mono ?_);(case side1=>exact bZ_ HB);(case side2=>exact Kd.R_tight rfl HO188.out);rintro e w6 ⟨v190,rfl,ho0,hb,hkp⟩;refine ⟨_,rfl,?_⟩;have n0_:=aM_ (Kd.R_mono (ok':=fun k_=>True) ho0 (fun k_ hk_=>trivial));have n1_:=aM_ (hb);clear HB;clear HO188;have HO191:=n0_;have HB:=n1_;clear n0_ n1_;(try clear hb);(try clear hkp);(try clear ho0)))
 go_ret
 exact ⟨_,by first | rfl | (simp [errW_none,errW_some] <;> rfl) | (simp [*, errW_none,errW_some] <;> rfl),by exact rZ_ HO191,by exact bZ_ HB⟩
def impl_GetSum.f (k : Nat) (l0 : List Int) : Option (List Int × Bool):=if (l0.length : Int) < 4 then (some (([] : List Int),false)) else (if 0 ≤ (wrap64 ((l0.length : Int) - 4)) then (if (wrap64 ((l0.length : Int) - 4)) ≤ (l0.length : Int) then ((impl_copyBytes.f (l0.take ((wrap64 ((l0.length : Int) - 4)) : Int).toNat)).bind fun t196=>((impl_PutSum.f k t196).bind fun t199=>(if (strOfNums t199).toList = (strOfNums l0).toList then (some (t196,true)) else (some (([] : List Int),false))))) else (none)) else (none))
theorem impl_GetSum.mono : ∀ a0 k,LeO (impl_GetSum.f k a0) (impl_GetSum.f (k + 1) a0):=by
 intro a0 k
 unfold impl_GetSum.f
 repeat' first
   | (with_reducible exact impl_PutSum.mono _ _)
   | (with_reducible exact LeO.refl _)
   | (with_reducible exact LeO.none _)
   | (with_reducible refine LeO.ite ?_ ?_)
   | (with_reducible refine LeO.bind ?_ (fun _=>?_))
   | exact impl_PutSum.mono _ _
   | exact LeO.none _
   | refine LeO.ite ?_ ?_
   | refine LeO.bind ?_ (fun _=>?_)
set_option maxHeartbeats 8000000 in
set_option maxRecDepth 100000 in
theorem impl_GetSum.calls (k : Nat) (A0 : Option Addr) (c0 : Nat) (l0 : List Int) (r1 : List Int) (r2 : Bool) (w : World) (hr0 : Kd.C (Kd.int .u8) w A0 l0.length l0) (hc0 : l0.length ≤ c0) (h : impl_GetSum.f k l0 = some (r1,r2)) :
  Calls Try.prog 114 #[.slice A0 l0.length c0] w fun e w'=>∃ v0_ : Value,e = .returned (.tuple #[v0_,.bool r2]) ∧ Kd.R (Kd.int .u8) 5 w' w.heap.size (fun _=>True) v0_ r1 ∧ Below w.heap.size w w':=by
 have HR0:=aM_ hr0
 have HC0:=aM_ hc0
 clear hr0 hc0
 have HB:=aM_ (Below.refl w.heap.size w)
 have H : (if (l0.length : Int) < 4 then (some (([] : List Int),false)) else (if 0 ≤ (wrap64 ((l0.length : Int) - 4)) then (if (wrap64 ((l0.length : Int) - 4)) ≤ (l0.length : Int) then ((impl_copyBytes.f (l0.take ((wrap64 ((l0.length : Int) - 4)) : Int).toNat)).bind fun t196=>((impl_PutSum.f k t196).bind fun t199=>(if (strOfNums t199).toList = (strOfNums l0).toList then (some (t196,true)) else (some (([] : List Int),false))))) else (none)) else (none))) = some (r1,r2):=h
 clear h
 by_cases c2 : (l0.length : Int) < 4
 ·rw [if_pos c2] at H
  have c2b0 : decide ((l0.length : Int) < 4) = true:=decide_eq_true c2
  have c2b1 : decide (l0.length < 4) = true:=decide_eq_true (by omega)
  clear c2
  simp only [Option.some.injEq,Prod.mk.injEq] at H
  obtain ⟨rfl,rfl⟩:=H
  go_enter Try.func114,Try.ntmps114
  go_wp2
  go_ret2
  exact ⟨_,by first | rfl | (simp [errW_none,errW_some] <;> rfl) | (simp [*, errW_none,errW_some] <;> rfl),by first | exact Kd.R_nil _ _ _ _ _ | exact Kd.N_nil _ _ _ _ _ | exact Kd.V_nil _ _ _ _ _ | exact Kd.Q_nil _ _ _ _ _ | exact Kd.S_nil _ _ _ _ _,by exact bZ_ HB⟩
 ·rw [if_neg c2] at H
  have c2b0 : decide ((l0.length : Int) < 4) = false:=decide_eq_false c2
  have c2b1 : decide (l0.length < 4) = false:=decide_eq_false (by omega)
  clear c2
  obtain ⟨ji3,hji3⟩ : ∃ j_ : Int,(wrap64 ((l0.length : Int) - 4)) = j_:=⟨_,rfl⟩
  replace H : (if 0 ≤ (ji3) then (if (ji3) ≤ (l0.length : Int) then ((impl_copyBytes.f (l0.take ((ji3) : Int).toNat)).bind fun t196=>((impl_PutSum.f k t196).bind fun t199=>(if (strOfNums t199).toList = (strOfNums l0).toList then (some (t196,true)) else (some (([] : List Int),false))))) else (none)) else (none)) = some (r1,r2):=by first | (rw [hji3] at H;exact H) | (simp only [hji3] at H ⊢;exact H)
  have hji3w : (IntKind.i64.wrap ((l0.length : Int) - 4)) = ji3:=(i64_w _).trans hji3
  by_cases c4 : 0 ≤ (ji3)
  ·rw [if_pos c4] at H
   have c4b0:=eq_true c4
   have c4b1 : decide (0 ≤ (ji3)) = true:=decide_eq_true c4
   clear c4
   by_cases c5 : (ji3) ≤ (l0.length : Int)
   ·rw [if_pos c5] at H
    have c5b0:=eq_true c5
    have c5b1 : decide ((ji3) ≤ (l0.length : Int)) = true:=decide_eq_true c5
    clear c5
    obtain ⟨y192,hy192⟩ : ∃ y_ : List Int,y_ = (l0.take ((ji3) : Int).toNat):=⟨_,rfl⟩
    replace H : ((impl_copyBytes.f y192).bind fun t196=>((impl_PutSum.f k t196).bind fun t199=>(if (strOfNums t199).toList = (strOfNums l0).toList then (some (t196,true)) else (some (([] : List Int),false))))) = some (r1,r2):=by first | (rw [hy192];with_reducible exact H) | (have H2_:=(Option.bind_some _ _).symm.trans H;rw [hy192];with_reducible exact H2_) | (have H2_:=(Option.bind_some _ _).symm.trans H;with_reducible exact H2_) | with_reducible exact H | (rw [hy192];exact H) | exact H
    have Ny192:=aM_ hy192
    clear hy192
    replace H:=oB_ H
    obtain ⟨t196,A60,H⟩:=H
    replace H : ((impl_PutSum.f k t196).bind fun t199=>(if (strOfNums t199).toList = (strOfNums l0).toList then (some (t196,true)) else (some (([] : List Int),false)))) = some (r1,r2):=H
    have A6:=aM_ A60
    clear A60
    replace H:=oB_ H
    obtain ⟨t199,A70,H⟩:=H
    replace H : (if (strOfNums t199).toList = (strOfNums l0).toList then (some (t196,true)) else (some (([] : List Int),false))) = some (r1,r2):=H
    have A7:=aM_ A70
    clear A70
    by_cases c8 : (strOfNums t199).toList = (strOfNums l0).toList
    ·rw [if_pos c8] at H
     have c8b0 : ((strOfNums t199).toList == (strOfNums l0).toList) = true:=beq_iff_eq.mpr c8
     have c8b1 : ((strOfNums t199).toList != (strOfNums l0).toList) = false:=bne_eq_false_iff_eq.mpr c8
     clear c8
     simp only [Option.some.injEq,Prod.mk.injEq] at H
     obtain ⟨rfl,rfl⟩:=H
     have q9 : ((ji3) : Int) ≤ ((l0.length : Int) : Int):=oT_ (by first | (with_reducible assumption) | assumption)
     obtain ⟨i09,hi09,_,hsz9,_⟩:=info_parts info5
     have hroom9 : l0.length ≤ c0:=HC0.out
     have hC9 : Kd.C (Kd.int .u8) _ A0 l0.length l0:=HR0.out
     have hcut9:=cut_to (P:=Try.prog) 27 5 .i64 Try.underlying27 hi09 A0 l0.length c0 (ji3) (oT_ (by first | (with_reducible assumption) | assumption)) q9 hroom9
     have hr9:=Kd.C_take (m:=((ji3) : Int).toNat) hC9 (by omega)
     have hy9 : y192.length = ((ji3) : Int).toNat:=(by rw [Ny192.out,lT_];omega)
     rw [← Ny192.out] at hr9
     rw [← hy9] at hcut9
     have HR195:=aM_ hr9
     have HC195:=aM_ (show y192.length ≤ c0 from by omega)
     clear hr9 hC9 hroom9 hi09 hsz9
     have KY9:=aM_ hy9
     clear hy9
     replace q9:=eq_true q9
     go_enter Try.func114,Try.ntmps114
     try go_wp2_with (first | ((with_reducible refine gate_callee (f:=163) rfl ?_);refine goesL_ (some 13) rfl rfl Try.func163 (by kernel_rfl) rfl #[.slice A0 y192.length c0] rfl (by (try simp only [mA_,mC_,mN_]);first | done | rfl | (simp only [lD_,lT_];rfl)) ?_;(with_reducible refine (impl_copyBytes.calls _ _ y192 t196 _ ?side1 ?side2 A6.out).mono ?_);(case side1=>repeat (first | exact HR195.out | (with_reducible refine cA_ ?_ _) | (with_reducible refine cN_ ?_ _) | (with_reducible refine cD_ ?_)));(case side2=>exact HC195.out);rintro e w10 ⟨v197,rfl,ho0,hb⟩;refine ⟨_,rfl,?_⟩;have n0_:=aM_ (Kd.R_lower ho0 (bS_ (by exact bZ_ HB)));have n1_:=aM_ (bT_ (by exact bZ_ HB) hb);clear HB;have HO198:=n0_;have HB:=n1_;clear n0_ n1_;(try clear hb);(try clear hb2);(try clear hk);(try clear hi);(try clear ho0)))
     have n0_:=aM_ (rD_ HO198.out)
     have n1_:=aM_ (bD_ HB.out)
     clear HO198
     clear HB
     have HO198:=n0_
     have HB:=n1_
     clear n0_ n1_
     obtain ⟨Ao13,co13,eo13⟩:=Kd.R_slice HO198.out
     (first | subst eo13 | (injection eo13 with f1_ f2_ f3_;have f4_:=f1_.symm;have f5_:=f3_.symm;clear f1_ f2_ f3_;subst f4_;subst f5_))
     refine start_ (n:=6) (S:=fun w'=>Sem.run Try.prog (convert 27 9 (.slice A0 l0.length c0)) w' = .ok (.string (strOfNums l0)) w') (ds:=[]) #[false,false,false,false,false,false] (by kernel_rfl) rfl rfl ((Kd.C_string (P:=Try.prog) Try.underlying27 Try.underlying5 Try.underlying9 (Kd.C_below HR0.out HB.out))) (fun hHeld=>?_)
     generalize w10.drew = w11 at HO198 HB hHeld ⊢
     refine pure_ (i:=0) (N:=some 14) (v:=?_) (a':=?_) #[true,false,false,false,false,false] rfl rfl (by kernel_rfl) (fun _ _ _ h=>h) (Or.inl ⟨by rfl,?_⟩) ?_ ?_
     rotate_left
     ·intro w'
      go_simp
      with_reducible rfl
     rotate_left
     ·simp only [Act.put,sI_,sZ_,sS_,i64_w,i32_w]
      rfl
     refine pure_ (i:=3) (N:=some 17) (v:=?_) (a':=?_) #[true,false,false,true,false,false] rfl rfl (by kernel_rfl) (fun _ _ _ h=>h) (Or.inl ⟨by rfl,?_⟩) ?_ ?_
     rotate_left
     ·intro w'
      go_simp
      with_reducible rfl
     rotate_left
     ·simp only [Act.put,sI_,sZ_,sS_,i64_w,i32_w]
      rfl
     refine take_ (i:=4) (N:=some 18) (v:=?_) (a':=?_) #[true,false,false,true,true,false] rfl rfl (by kernel_rfl) (fun _ _ _ h=>h) (Or.inl ⟨by rfl,?_⟩) hHeld ?_ ?_
     rotate_left
     ·intro w' s0
      go_simp
      with_reducible rfl
     rotate_left
     ·simp only [Act.put,sI_,sZ_,sS_,i64_w,i32_w]
      rfl
     refine one_ (i:=1) (N:=some 15) #[true,true,false,true,true,false] rfl rfl (by kernel_rfl) (by decide) (fun K hK=>?_)
     refine goes_ Try.func164 (by kernel_rfl) rfl #[.slice Ao13 t196.length co13] (by rfl) rfl rfl (by (try simp only [mA_,mC_,mN_]);first | done | rfl | (simp only [lD_,lT_];rfl)) ?_
     with_reducible refine (impl_PutSum.calls k _ _ t196 t199 _ ?side1 ?side2 A7.out).mono ?_
     (case side1=>repeat (first | exact (Kd.R_reads' HO198.out).2.2 | (with_reducible refine cA_ ?_ _) | (with_reducible refine cN_ ?_ _) | (with_reducible refine cD_ ?_)))
     (case side2=>exact (Kd.R_reads' HO198.out).2.1)
     rintro e w14 ⟨v200,rfl,ho0,hb⟩
     refine ⟨_,rfl,?_⟩
     have n0_:=aM_ (Kd.R_elder' (by exact rZ_ HO198) (Kd.R_base ho0) hb)
     have n1_:=aM_ (Kd.R_lower (Kd.R_new' ho0 (Kd.R_lt (by exact rZ_ HO198))) (bS_ (by exact bZ_ HB)))
     have n2_:=aM_ (bT_ (by exact bZ_ HB) hb)
     clear HO198
     clear HB
     have HO198:=n0_
     have HO201:=n1_
     have HB:=n2_
     clear n0_ n1_ n2_
     (try clear hb)
     (try clear hb2)
     (try clear hk)
     (try clear hi)
     (try clear ho0)
     refine hK.out _ _ ((Kd.C_string (P:=Try.prog) Try.underlying27 Try.underlying5 Try.underlying9 (Kd.C_below HR0.out HB.out))) (fun hHeld=>?_)
     clear hK K
     refine norm_ (a':=?_) ?_ ?_
     rotate_left
     ·show Act.put _ (some 15) _ = _
      simp only [Act.put,sI_,sZ_,sS_,i64_w,i32_w]
      rfl
     refine one_ (i:=2) (N:=some 16) #[true,true,true,true,true,false] rfl rfl (by kernel_rfl) (by decide) (fun K hK=>?_)
     have hcv15:=own_string (P:=Try.prog) Try.underlying27 Try.underlying5 Try.underlying9 (Kd.own_of_R HO201.out)
     refine value_ (w1:=?_) (v:=?_) (by rfl) rfl ?_ ?_
     rotate_left 2
     ·go_simp
      constructor
      ·rfl
      ·rfl
     clear hcv15
     refine hK.out _ _ ((Kd.C_string (P:=Try.prog) Try.underlying27 Try.underlying5 Try.underlying9 (Kd.C_below HR0.out HB.out))) (fun hHeld=>?_)
     clear hK K
     refine norm_ (a':=?_) ?_ ?_
     rotate_left
     ·show Act.put _ (some 16) _ = _
      simp only [Act.put,sI_,sZ_,sS_,i64_w,i32_w]
      rfl
     refine pure_ (i:=5) (N:=some 19) (v:=?_) (a':=?_) #[true,true,true,true,true,true] rfl rfl (by kernel_rfl) (fun _ _ _ h=>h) (Or.inl ⟨by rfl,?_⟩) ?_ ?_
     rotate_left
     ·intro w'
      go_simp
      with_reducible rfl
     rotate_left
     ·simp only [Act.put,sI_,sZ_,sS_,i64_w,i32_w]
      rfl
     refine done_ (by kernel_rfl) ?_
     try go_wp2
     go_ret2
     exact ⟨_,by first | rfl | (simp [errW_none,errW_some] <;> rfl) | (simp only [← hji3];first | rfl | (simp [errW_none,errW_some] <;> rfl)) | (simp [*, errW_none,errW_some] <;> rfl),by (with_reducible repeat (first | apply rA_ | apply rN_ | apply rD_));exact Kd.R_mono HO198.out (fun _ hk=>trivial),by exact bZ_ HB⟩
    ·rw [if_neg c8] at H
     have c8b0 : ((strOfNums t199).toList == (strOfNums l0).toList) = false:=beq_eq_false_iff_ne.mpr c8
     have c8b1 : ((strOfNums t199).toList != (strOfNums l0).toList) = true:=bne_iff_ne.mpr c8
     simp only [Option.some.injEq,Prod.mk.injEq] at H
     obtain ⟨rfl,rfl⟩:=H
     have q16 : ((ji3) : Int) ≤ ((l0.length : Int) : Int):=oT_ (by first | (with_reducible assumption) | assumption)
     obtain ⟨i016,hi016,_,hsz16,_⟩:=info_parts info5
     have hroom16 : l0.length ≤ c0:=HC0.out
     have hC16 : Kd.C (Kd.int .u8) _ A0 l0.length l0:=HR0.out
     have hcut16:=cut_to (P:=Try.prog) 27 5 .i64 Try.underlying27 hi016 A0 l0.length c0 (ji3) (oT_ (by first | (with_reducible assumption) | assumption)) q16 hroom16
     have hr16:=Kd.C_take (m:=((ji3) : Int).toNat) hC16 (by omega)
     have hy16 : y192.length = ((ji3) : Int).toNat:=(by rw [Ny192.out,lT_];omega)
     rw [← Ny192.out] at hr16
     rw [← hy16] at hcut16
     have HR195:=aM_ hr16
     have HC195:=aM_ (show y192.length ≤ c0 from by omega)
     clear hr16 hC16 hroom16 hi016 hsz16
     have KY16:=aM_ hy16
     clear hy16
     replace q16:=eq_true q16
     go_enter Try.func114,Try.ntmps114
     try go_wp2_with (first | ((with_reducible refine gate_callee (f:=163) rfl ?_);refine goesL_ (some 13) rfl rfl Try.func163 (by kernel_rfl) rfl #[.slice A0 y192.length c0] rfl (by (try simp only [mA_,mC_,mN_]);first | done | rfl | (simp only [lD_,lT_];rfl)) ?_;(with_reducible refine (impl_copyBytes.calls _ _ y192 t196 _ ?side1 ?side2 A6.out).mono ?_);(case side1=>repeat (first | exact HR195.out | (with_reducible refine cA_ ?_ _) | (with_reducible refine cN_ ?_ _) | (with_reducible refine cD_ ?_)));(case side2=>exact HC195.out);rintro e w17 ⟨v197,rfl,ho0,hb⟩;refine ⟨_,rfl,?_⟩;have n0_:=aM_ (Kd.R_lower ho0 (bS_ (by exact bZ_ HB)));have n1_:=aM_ (bT_ (by exact bZ_ HB) hb);clear HB;have HO198:=n0_;have HB:=n1_;clear n0_ n1_;(try clear hb);(try clear hb2);(try clear hk);(try clear hi);(try clear ho0)))
     have n0_:=aM_ (rD_ HO198.out)
     have n1_:=aM_ (bD_ HB.out)
     clear HO198
     clear HB
     have HO198:=n0_
     have HB:=n1_
     clear n0_ n1_
     obtain ⟨Ao20,co20,eo20⟩:=Kd.R_slice HO198.out
     (first | subst eo20 | (injection eo20 with f1_ f2_ f3_;have f4_:=f1_.symm;have f5_:=f3_.symm;clear f1_ f2_ f3_;subst f4_;subst f5_))
     refine start_ (n:=6) (S:=fun w'=>Sem.run Try.prog (convert 27 9 (.slice A0 l0.length c0)) w' = .ok (.string (strOfNums l0)) w') (ds:=[]) #[false,false,false,false,false,false] (by kernel_rfl) rfl rfl ((Kd.C_string (P:=Try.prog) Try.underlying27 Try.underlying5 Try.underlying9 (Kd.C_below HR0.out HB.out))) (fun hHeld=>?_)
     generalize w17.drew = w18 at HO198 HB hHeld ⊢
     refine pure_ (i:=0) (N:=some 14) (v:=?_) (a':=?_) #[true,false,false,false,false,false] rfl rfl (by kernel_rfl) (fun _ _ _ h=>h) (Or.inl ⟨by rfl,?_⟩) ?_ ?_
     rotate_left
     ·intro w'
      go_simp
      with_reducible rfl
     rotate_left
     ·simp only [Act.put,sI_,sZ_,sS_,i64_w,i32_w]
      rfl
     refine pure_ (i:=3) (N:=some 17) (v:=?_) (a':=?_) #[true,false,false,true,false,false] rfl rfl (by kernel_rfl) (fun _ _ _ h=>h) (Or.inl ⟨by rfl,?_⟩) ?_ ?_
     rotate_left
     ·intro w'
      go_simp
      with_reducible rfl
     rotate_left
     ·simp only [Act.put,sI_,sZ_,sS_,i64_w,i32_w]
      rfl
     refine take_ (i:=4) (N:=some 18) (v:=?_) (a':=?_) #[true,false,false,true,true,false] rfl rfl (by kernel_rfl) (fun _ _ _ h=>h) (Or.inl ⟨by rfl,?_⟩) hHeld ?_ ?_
     rotate_left
     ·intro w' s0
      go_simp
      with_reducible rfl
     rotate_left
     ·simp only [Act.put,sI_,sZ_,sS_,i64_w,i32_w]
      rfl
     refine one_ (i:=1) (N:=some 15) #[true,true,false,true,true,false] rfl rfl (by kernel_rfl) (by decide) (fun K hK=>?_)
     refine goes_ Try.func164 (by kernel_rfl) rfl #[.slice Ao20 t196.length co20] (by rfl) rfl rfl (by (try simp only [mA_,mC_,mN_]);first | done | rfl | (simp only [lD_,lT_];rfl)) ?_
     with_reducible refine (impl_PutSum.calls k _ _ t196 t199 _ ?side1 ?side2 A7.out).mono ?_
     (case side1=>repeat (first | exact (Kd.R_reads' HO198.out).2.2 | (with_reducible refine cA_ ?_ _) | (with_reducible refine cN_ ?_ _) | (with_reducible refine cD_ ?_)))
     (case side2=>exact (Kd.R_reads' HO198.out).2.1)
     rintro e w21 ⟨v200,rfl,ho0,hb⟩
     refine ⟨_,rfl,?_⟩
     have n0_:=aM_ (Kd.R_elder' (by exact rZ_ HO198) (Kd.R_base ho0) hb)
     have n1_:=aM_ (Kd.R_lower (Kd.R_new' ho0 (Kd.R_lt (by exact rZ_ HO198))) (bS_ (by exact bZ_ HB)))
     have n2_:=aM_ (bT_ (by exact bZ_ HB) hb)
     clear HO198
     clear HB
     have HO198:=n0_
     have HO201:=n1_
     have HB:=n2_
     clear n0_ n1_ n2_
     (try clear hb)
     (try clear hb2)
     (try clear hk)
     (try clear hi)
     (try clear ho0)
     refine hK.out _ _ ((Kd.C_string (P:=Try.prog) Try.underlying27 Try.underlying5 Try.underlying9 (Kd.C_below HR0.out HB.out))) (fun hHeld=>?_)
     clear hK K
     refine norm_ (a':=?_) ?_ ?_
     rotate_left
     ·show Act.put _ (some 15) _ = _
      simp only [Act.put,sI_,sZ_,sS_,i64_w,i32_w]
      rfl
     refine one_ (i:=2) (N:=some 16) #[true,true,true,true,true,false] rfl rfl (by kernel_rfl) (by decide) (fun K hK=>?_)
     have hcv22:=own_string (P:=Try.prog) Try.underlying27 Try.underlying5 Try.underlying9 (Kd.own_of_R HO201.out)
     refine value_ (w1:=?_) (v:=?_) (by rfl) rfl ?_ ?_
     rotate_left 2
     ·go_simp
      constructor
      ·rfl
      ·rfl
     clear hcv22
     refine hK.out _ _ ((Kd.C_string (P:=Try.prog) Try.underlying27 Try.underlying5 Try.underlying9 (Kd.C_below HR0.out HB.out))) (fun hHeld=>?_)
     clear hK K
     refine norm_ (a':=?_) ?_ ?_
     rotate_left
     ·show Act.put _ (some 16) _ = _
      simp only [Act.put,sI_,sZ_,sS_,i64_w,i32_w]
      rfl
     refine pure_ (i:=5) (N:=some 19) (v:=?_) (a':=?_) #[true,true,true,true,true,true] rfl rfl (by kernel_rfl) (fun _ _ _ h=>h) (Or.inl ⟨by rfl,?_⟩) ?_ ?_
     rotate_left
     ·intro w'
      go_simp
      with_reducible rfl
     rotate_left
     ·simp only [Act.put,sI_,sZ_,sS_,i64_w,i32_w]
      rfl
     refine done_ (by kernel_rfl) ?_
     try go_wp2
     go_ret2
     exact ⟨_,by first | rfl | (simp [errW_none,errW_some] <;> rfl) | (simp only [← hji3];first | rfl | (simp [errW_none,errW_some] <;> rfl)) | (simp [*, errW_none,errW_some] <;> rfl),by first | exact Kd.R_nil _ _ _ _ _ | exact Kd.N_nil _ _ _ _ _ | exact Kd.V_nil _ _ _ _ _ | exact Kd.Q_nil _ _ _ _ _ | exact Kd.S_nil _ _ _ _ _,by exact bZ_ HB⟩
   ·rw [if_neg c5] at H
    exact absurd H (by simp)
  ·rw [if_neg c4] at H
   exact absurd H (by simp)
def impl_GetText.f (k : Nat) (l0 : List Int) (a1 : Int) : Option (ByteArray × Int × Bool):=(impl_GetU.f k l0 a1).bind fun bt202=>(if bt202.2.2 = true then (if bt202.1 > (wrap64 ((l0.length : Int) - bt202.2.1)) then (some ((⟨#[]⟩ : ByteArray),0,false)) else (if 0 ≤ bt202.2.1 then (if bt202.2.1 ≤ (wrap64 (bt202.2.1 + bt202.1)) then (if (wrap64 (bt202.2.1 + bt202.1)) ≤ (l0.length : Int) then (some (strOfNums ((l0.take ((wrap64 (bt202.2.1 + bt202.1)) : Int).toNat).drop (bt202.2.1 : Int).toNat),wrap64 (bt202.2.1 + bt202.1),true)) else (none)) else (none)) else (none))) else (some ((⟨#[]⟩ : ByteArray),0,false)))
theorem impl_GetText.mono : ∀ a0 a1 k,LeO (impl_GetText.f k a0 a1) (impl_GetText.f (k + 1) a0 a1):=by
 intro a0 a1 k
 unfold impl_GetText.f
 repeat' first
   | (with_reducible exact impl_GetU.mono _ _ _)
   | (with_reducible exact LeO.refl _)
   | (with_reducible exact LeO.none _)
   | (with_reducible refine LeO.ite ?_ ?_)
   | (with_reducible refine LeO.bind ?_ (fun _=>?_))
   | exact impl_GetU.mono _ _ _
   | exact LeO.none _
   | refine LeO.ite ?_ ?_
   | refine LeO.bind ?_ (fun _=>?_)
set_option maxHeartbeats 8000000 in
set_option maxRecDepth 100000 in
theorem impl_GetText.calls (k : Nat) (A0 : Option Addr) (c0 : Nat) (l0 : List Int) (a1 : Int) (r1 : ByteArray) (r2 : Int) (r3 : Bool) (w : World) (hr0 : Kd.C (Kd.int .u8) w A0 l0.length l0) (hc0 : l0.length ≤ c0) (h : impl_GetText.f k l0 a1 = some (r1,r2,r3)) :
  Calls Try.prog 80 #[.slice A0 l0.length c0,.int .i64 a1] w fun e w'=>e = .returned (.tuple #[.string r1,.int .i64 r2,.bool r3]) ∧ Drawn0 w w':=by
 have HR0:=aM_ hr0
 have HC0:=aM_ hc0
 clear hr0 hc0
 have H : ((impl_GetU.f k l0 a1).bind fun bt202=>(if bt202.2.2 = true then (if bt202.1 > (wrap64 ((l0.length : Int) - bt202.2.1)) then (some ((⟨#[]⟩ : ByteArray),0,false)) else (if 0 ≤ bt202.2.1 then (if bt202.2.1 ≤ (wrap64 (bt202.2.1 + bt202.1)) then (if (wrap64 (bt202.2.1 + bt202.1)) ≤ (l0.length : Int) then (some (strOfNums ((l0.take ((wrap64 (bt202.2.1 + bt202.1)) : Int).toNat).drop (bt202.2.1 : Int).toNat),wrap64 (bt202.2.1 + bt202.1),true)) else (none)) else (none)) else (none))) else (some ((⟨#[]⟩ : ByteArray),0,false)))) = some (r1,r2,r3):=h
 clear h
 replace H:=oB_ H
 obtain ⟨⟨t202,t203,t204⟩,A30,H⟩:=H
 replace H : (if t204 = true then (if t202 > (wrap64 ((l0.length : Int) - t203)) then (some ((⟨#[]⟩ : ByteArray),0,false)) else (if 0 ≤ t203 then (if t203 ≤ (wrap64 (t203 + t202)) then (if (wrap64 (t203 + t202)) ≤ (l0.length : Int) then (some (strOfNums ((l0.take ((wrap64 (t203 + t202)) : Int).toNat).drop (t203 : Int).toNat),wrap64 (t203 + t202),true)) else (none)) else (none)) else (none))) else (some ((⟨#[]⟩ : ByteArray),0,false))) = some (r1,r2,r3):=H
 have A3:=aM_ A30
 clear A30
 by_cases c4 : t204 = true
 ·subst c4
  have H1 : (if t202 > (wrap64 ((l0.length : Int) - t203)) then (some ((⟨#[]⟩ : ByteArray),0,false)) else (if 0 ≤ t203 then (if t203 ≤ (wrap64 (t203 + t202)) then (if (wrap64 (t203 + t202)) ≤ (l0.length : Int) then (some (strOfNums ((l0.take ((wrap64 (t203 + t202)) : Int).toNat).drop (t203 : Int).toNat),wrap64 (t203 + t202),true)) else (none)) else (none)) else (none))) = some (r1,r2,r3):=by rw [if_pos rfl] at H;exact H
  clear H
  have H:=H1
  clear H1
  by_cases c5 : t202 > (wrap64 ((l0.length : Int) - t203))
  ·rw [if_pos c5] at H
   have c5b0 : decide ((wrap64 ((l0.length : Int) - t203)) < t202) = true:=decide_eq_true c5
   clear c5
   simp only [Option.some.injEq,Prod.mk.injEq] at H
   obtain ⟨rfl,rfl,rfl⟩:=H
   go_enter Try.func80,Try.ntmps80
   go_wp2_with (first | ((with_reducible refine gate_callee (f:=78) rfl ?_);refine goesL_ (some 13) rfl rfl Try.func78 (by kernel_rfl) rfl #[.slice A0 l0.length c0,.int .i64 a1] rfl (by (try simp only [mA_,mC_,mN_]);first | done | rfl | (simp only [lD_,lT_];rfl)) ?_;(with_reducible refine (impl_GetU.calls k _ _ l0 a1 t202 t203 true _ ?side1 ?side2 A3.out).mono ?_);(case side1=>repeat (first | exact HR0.out | (with_reducible refine cA_ ?_ _) | (with_reducible refine cN_ ?_ _) | (with_reducible refine cD_ ?_)));(case side2=>exact HC0.out);rintro e w' ⟨rfl,⟨nd,rfl⟩⟩;refine ⟨_,rfl,?_⟩))
   go_ret3
   exact ⟨by first | rfl | (simp;done) | (simp [*];done),by repeat (first | exact Drawn0.refl _ | apply Drawn0.step)⟩
  ·rw [if_neg c5] at H
   have c5b0 : decide ((wrap64 ((l0.length : Int) - t203)) < t202) = false:=decide_eq_false c5
   clear c5
   by_cases c6 : 0 ≤ t203
   ·rw [if_pos c6] at H
    have c6b0:=eq_true c6
    have c6b1 : decide (0 ≤ t203) = true:=decide_eq_true c6
    clear c6
    by_cases c7 : t203 ≤ (wrap64 (t203 + t202))
    ·rw [if_pos c7] at H
     have c7b0:=eq_true c7
     have c7b1 : decide (t203 ≤ (wrap64 (t203 + t202))) = true:=decide_eq_true c7
     by_cases c8 : (wrap64 (t203 + t202)) ≤ (l0.length : Int)
     ·rw [if_pos c8] at H
      have c8b0:=eq_true c8
      have c8b1 : decide ((wrap64 (t203 + t202)) ≤ (l0.length : Int)) = true:=decide_eq_true c8
      simp only [Option.some.injEq,Prod.mk.injEq] at H
      obtain ⟨rfl,rfl,rfl⟩:=H
      go_enter Try.func80,Try.ntmps80
      go_wp2_with (first | ((with_reducible refine gate_callee (f:=78) rfl ?_);refine goesL_ (some 13) rfl rfl Try.func78 (by kernel_rfl) rfl #[.slice A0 l0.length c0,.int .i64 a1] rfl (by (try simp only [mA_,mC_,mN_]);first | done | rfl | (simp only [lD_,lT_];rfl)) ?_;(with_reducible refine (impl_GetU.calls k _ _ l0 a1 t202 t203 true _ ?side1 ?side2 A3.out).mono ?_);(case side1=>repeat (first | exact HR0.out | (with_reducible refine cA_ ?_ _) | (with_reducible refine cN_ ?_ _) | (with_reducible refine cD_ ?_)));(case side2=>exact HC0.out);rintro e w' ⟨rfl,⟨nd,rfl⟩⟩;refine ⟨_,rfl,?_⟩;obtain ⟨i09,hi09,_,hsz9,_⟩:=info_parts info5;obtain ⟨A9,hcut9,hA9,hC9⟩:=print_mid_of (P:=Try.prog) (Value.int .u8) 0 27 5 .i64 .i64 Try.underlying27 hi09 hsz9 A0 c0 l0 t203 (wrap64 (t203 + t202)) (oT_ (by first | (with_reducible assumption) | assumption)) (by first | omega | exact oT_ (by first | (with_reducible assumption) | assumption)) (oT_ (by first | (with_reducible assumption) | assumption)) HC0.out;have HR205:=aM_ (Kd.C_of_reads (h1:=fun _=>rfl) (hA9 _ (Kd.reads_of_C HR0.out)));have HC205:=aM_ hC9;clear hA9 hC9 hi09 hsz9;have hcv10:=Kd.C_string (P:=Try.prog) (A:=A9) (c:=(c0 - t203.toNat)) Try.underlying27 Try.underlying5 Try.underlying9 HR205.out;have hcw206:=fun (n_ : Nat)=>Kd.C_string (P:=Try.prog) (A:=A9) (c:=(c0 - t203.toNat)) Try.underlying27 Try.underlying5 Try.underlying9 (cN_ (HR205.out) n_);simp only [lD_,lT_] at hcw206;have hcw206m : min ((wrap64 (t203 + t202)) : Int).toNat l0.length = ((wrap64 (t203 + t202)) : Int).toNat:=Nat.min_eq_left (by omega);have hcw206a:=hcw206;simp only [hcw206m] at hcw206a;clear hcw206m))
      go_ret3
      exact ⟨by first | rfl | (simp;done) | (simp [*];done),by repeat (first | exact Drawn0.refl _ | apply Drawn0.step)⟩
     ·rw [if_neg c8] at H
      exact absurd H (by simp)
    ·rw [if_neg c7] at H
     exact absurd H (by simp)
   ·rw [if_neg c6] at H
    exact absurd H (by simp)
 ·replace c4:=Bool.eq_false_iff.mpr c4
  subst c4
  have H1 : (some ((⟨#[]⟩ : ByteArray),0,false)) = some (r1,r2,r3):=by rw [if_neg (show ¬ (false = true) by decide)] at H;exact H
  clear H
  have H:=H1
  clear H1
  simp only [Option.some.injEq,Prod.mk.injEq] at H
  obtain ⟨rfl,rfl,rfl⟩:=H
  go_enter Try.func80,Try.ntmps80
  go_wp2_with (first | ((with_reducible refine gate_callee (f:=78) rfl ?_);refine goesL_ (some 13) rfl rfl Try.func78 (by kernel_rfl) rfl #[.slice A0 l0.length c0,.int .i64 a1] rfl (by (try simp only [mA_,mC_,mN_]);first | done | rfl | (simp only [lD_,lT_];rfl)) ?_;(with_reducible refine (impl_GetU.calls k _ _ l0 a1 t202 t203 false _ ?side1 ?side2 A3.out).mono ?_);(case side1=>repeat (first | exact HR0.out | (with_reducible refine cA_ ?_ _) | (with_reducible refine cN_ ?_ _) | (with_reducible refine cD_ ?_)));(case side2=>exact HC0.out);rintro e w' ⟨rfl,⟨nd,rfl⟩⟩;refine ⟨_,rfl,?_⟩))
  go_ret3
  exact ⟨by first | rfl | (simp;done) | (simp [*];done),by repeat (first | exact Drawn0.refl _ | apply Drawn0.step)⟩
mutual
def impl_numberAt.j0 : Nat → List Int → Int → Int → Int → Bool → Option (Int × Bool)
 | 0,_,_,_,_,_=>none
 | k + 1,x0,x1,x2,x3,x22=>if x22 = true then (some (0,false)) else (if 0 ≤ x1 then (if x1 ≤ (wrap64 (x1 + x2)) then (if (wrap64 (x1 + x2)) ≤ (x0.length : Int) then ((some ((x0.take ((wrap64 (x1 + x2)) : Int).toNat).drop (x1 : Int).toNat : List Int)).bind fun y207=>(impl_numberAt.l0 k x3 0 y207 (y207.length : Int) 0)) else (none)) else (none)) else (none))
def impl_numberAt.l0 : Nat → Int → Int → List Int → Int → Int → Option (Int × Bool)
 | 0,_,_,_,_,_=>none
 | k + 1,x3,x10,x28,x29,x30=>if x30 < x29 then (if 0 ≤ x30 then (if x30 < (x28.length : Int) then (impl_numberAt.l0 k x3 (Go.bits .or .i64 (wrap64 (x10 * 256)) (wrap64 (Go.bits .xor .u8 (rd x28 x30) x3))) x28 x29 (wrap64 (x30 + 1))) else (none)) else (none)) else (some (x10,true))
end
def impl_numberAt.f (k : Nat) (l0 : List Int) (a1 : Int) (a2 : Int) (a3 : Int) : Option (Int × Bool):=if a1 < 0 then (impl_numberAt.j0 k l0 a1 a2 a3 true) else (impl_numberAt.j0 k l0 a1 a2 a3 (decide (a1 > (wrap64 ((l0.length : Int) - a2)))))
theorem impl_numberAt.mono_l : ∀ k,(∀ y0 y1 y2 y3 y4,LeO (impl_numberAt.j0 k y0 y1 y2 y3 y4) (impl_numberAt.j0 (k + 1) y0 y1 y2 y3 y4)) ∧ (∀ y0 y1 y2 y3 y4,LeO (impl_numberAt.l0 k y0 y1 y2 y3 y4) (impl_numberAt.l0 (k + 1) y0 y1 y2 y3 y4))
 | 0=>⟨fun _ _ _ _ _ r h=>by simp [impl_numberAt.j0] at h,fun _ _ _ _ _ r h=>by simp [impl_numberAt.l0] at h⟩
 | k + 1=>by
  obtain ⟨ih0,ih1⟩:=impl_numberAt.mono_l k
  refine ⟨?_,?_⟩
  ·intro y0 y1 y2 y3 y4
   unfold impl_numberAt.j0
   repeat' first
   | (with_reducible exact ih0 _ _ _ _ _)
   | (with_reducible exact ih1 _ _ _ _ _)
   | (with_reducible exact LeO.refl _)
   | (with_reducible exact LeO.none _)
   | (with_reducible refine LeO.ite ?_ ?_)
   | (with_reducible refine LeO.bind ?_ (fun _=>?_))
   | exact ih0 _ _ _ _ _
   | exact ih1 _ _ _ _ _
   | exact LeO.none _
   | refine LeO.ite ?_ ?_
   | refine LeO.bind ?_ (fun _=>?_)
  ·intro y0 y1 y2 y3 y4
   unfold impl_numberAt.l0
   repeat' first
   | (with_reducible exact ih0 _ _ _ _ _)
   | (with_reducible exact ih1 _ _ _ _ _)
   | (with_reducible exact LeO.refl _)
   | (with_reducible exact LeO.none _)
   | (with_reducible refine LeO.ite ?_ ?_)
   | (with_reducible refine LeO.bind ?_ (fun _=>?_))
   | exact ih0 _ _ _ _ _
   | exact ih1 _ _ _ _ _
   | exact LeO.none _
   | refine LeO.ite ?_ ?_
   | refine LeO.bind ?_ (fun _=>?_)
theorem impl_numberAt.mono : ∀ a0 a1 a2 a3 k,LeO (impl_numberAt.f k a0 a1 a2 a3) (impl_numberAt.f (k + 1) a0 a1 a2 a3):=by
 intro a0 a1 a2 a3 k
 obtain ⟨ih0,ih1⟩:=impl_numberAt.mono_l k
 unfold impl_numberAt.f
 repeat' first
   | (with_reducible exact ih0 _ _ _ _ _)
   | (with_reducible exact ih1 _ _ _ _ _)
   | (with_reducible exact LeO.refl _)
   | (with_reducible exact LeO.none _)
   | (with_reducible refine LeO.ite ?_ ?_)
   | (with_reducible refine LeO.bind ?_ (fun _=>?_))
   | exact ih0 _ _ _ _ _
   | exact ih1 _ _ _ _ _
   | exact LeO.none _
   | refine LeO.ite ?_ ?_
   | refine LeO.bind ?_ (fun _=>?_)
set_option maxHeartbeats 8000000 in
set_option maxRecDepth 100000 in
theorem impl_numberAt.calls (k : Nat) (A0 : Option Addr) (c0 : Nat) (l0 : List Int) (a1 : Int) (a2 : Int) (a3 : Int) (r1 : Int) (r2 : Bool) (w : World) (hr0 : Kd.C (Kd.int .u8) w A0 l0.length l0) (hc0 : l0.length ≤ c0) (h : impl_numberAt.f k l0 a1 a2 a3 = some (r1,r2)) :
  Calls Try.prog 183 #[.slice A0 l0.length c0,.int .i64 a1,.int .i64 a2,.int .u8 a3] w fun e w'=>e = .returned (.tuple #[.int .i64 r1,.bool r2]) ∧ Drawn0 w w':=by
 have HR0:=aM_ hr0
 have HC0:=aM_ hc0
 clear hr0 hc0
 have H : (if a1 < 0 then (impl_numberAt.j0 k l0 a1 a2 a3 true) else (impl_numberAt.j0 k l0 a1 a2 a3 (decide (a1 > (wrap64 ((l0.length : Int) - a2)))))) = some (r1,r2):=h
 clear h
 have HC5:=aM_ H
 clear H
 go_enter Try.func183,Try.ntmps183
 go_upto_region 1 with (fail)
 go_cut [22] (fun v22 wc=>∃ (kq : Nat) (x22_4 : Bool),v22 = .bool x22_4 ∧ Aside0 (impl_numberAt.j0 kq l0 a1 a2 a3 x22_4 = some (r1,r2)) ∧ Aside0 (kq ≤ k) ∧ Drawn0 w wc)
 case first =>
  have H:=HC5.out
  clear HC5
  by_cases c6 : a1 < 0
  ·rw [if_pos c6] at H
   have c6b0 : decide (a1 < 0) = true:=decide_eq_true c6
   clear c6
   (first | rw [c6b0] | (simp only [i64_w,i32_w];rw [c6b0]) | skip)
   have H':=aM_ H
   clear H
   go_wp2
   (first | go_meet | (refine Met.intro ?_;go_step;(repeat apply Exists.intro);refine ⟨?rel,?eq⟩;(case eq=>(try simp only [c4b0]);(try simp only [c4b0]);(try simp only [c6b0]);rfl)))
   case rel=>exact ⟨_,(true),(by first | rfl | (simp;done) | (simp [*];done)),H', ⟨by first | omega | exact Nat.le_refl _⟩,by repeat (first | exact Drawn0.refl _ | apply Drawn0.step)⟩
  ·rw [if_neg c6] at H
   have c6b0 : decide (a1 < 0) = false:=decide_eq_false c6
   clear c6
   (first | rw [c6b0] | (simp only [i64_w,i32_w];rw [c6b0]) | skip)
   have H':=aM_ H
   clear H
   go_wp2
   (first | go_meet | (refine Met.intro ?_;go_step;(repeat apply Exists.intro);refine ⟨?rel,?eq⟩;(case eq=>(try simp only [c4b0]);(try simp only [c6b0]);(try simp only [c6b0]);rfl)))
   case rel=>exact ⟨_,(decide (a1 > (wrap64 ((l0.length : Int) - a2)))),(by first | rfl | (simp;done) | (simp [*];done)),H', ⟨by first | omega | exact Nat.le_refl _⟩,by repeat (first | exact Drawn0.refl _ | apply Drawn0.step)⟩
 case rest =>
  clear HC5
  try clear c1
  try clear p2
  try clear c4
  try clear c4b0
  try clear c6
  try clear c6b0
  try clear p6
  obtain ⟨kq,x22_4,rfl,HA,HJ4,⟨mc4,rfl⟩⟩:=hcut
  cases kq with
  | zero=>exact absurd HA.out (by simp [impl_numberAt.j0])
  | succ kj4 =>
   have H:=HA.out
   clear HA
   simp only [impl_numberAt.j0] at H
   by_cases c7 : x22_4 = true
   ·subst c7
    have H1 : (some (0,false)) = some (r1,r2):=by rw [if_pos rfl] at H;exact H
    clear H
    have H:=H1
    clear H1
    simp only [Option.some.injEq,Prod.mk.injEq] at H
    obtain ⟨rfl,rfl⟩:=H
    go_wp2
    go_ret2
    exact ⟨by first | rfl | (simp;done) | (simp [*];done),by repeat (first | exact Drawn0.refl _ | apply Drawn0.step)⟩
   ·replace c7:=Bool.eq_false_iff.mpr c7
    subst c7
    have H1 : (if 0 ≤ a1 then (if a1 ≤ (wrap64 (a1 + a2)) then (if (wrap64 (a1 + a2)) ≤ (l0.length : Int) then ((some ((l0.take ((wrap64 (a1 + a2)) : Int).toNat).drop (a1 : Int).toNat : List Int)).bind fun y207=>(impl_numberAt.l0 kj4 a3 0 y207 (y207.length : Int) 0)) else (none)) else (none)) else (none)) = some (r1,r2):=by rw [if_neg (show ¬ (false = true) by decide)] at H;exact H
    clear H
    have H:=H1
    clear H1
    by_cases c8 : 0 ≤ a1
    ·rw [if_pos c8] at H
     have c8b0:=eq_true c8
     have c8b1 : decide (0 ≤ a1) = true:=decide_eq_true c8
     clear c8
     by_cases c9 : a1 ≤ (wrap64 (a1 + a2))
     ·rw [if_pos c9] at H
      have c9b0:=eq_true c9
      have c9b1 : decide (a1 ≤ (wrap64 (a1 + a2))) = true:=decide_eq_true c9
      by_cases c10 : (wrap64 (a1 + a2)) ≤ (l0.length : Int)
      ·rw [if_pos c10] at H
       have c10b0:=eq_true c10
       have c10b1 : decide ((wrap64 (a1 + a2)) ≤ (l0.length : Int)) = true:=decide_eq_true c10
       obtain ⟨y207,hy207⟩ : ∃ y_ : List Int,y_ = ((l0.take ((wrap64 (a1 + a2)) : Int).toNat).drop (a1 : Int).toNat):=⟨_,rfl⟩
       replace H : (impl_numberAt.l0 kj4 a3 0 y207 (y207.length : Int) 0) = some (r1,r2):=by first | (rw [hy207];with_reducible exact H) | (have H2_:=(Option.bind_some _ _).symm.trans H;rw [hy207];with_reducible exact H2_) | (have H2_:=(Option.bind_some _ _).symm.trans H;with_reducible exact H2_) | with_reducible exact H | (rw [hy207];exact H) | exact H
       have Ny207:=aM_ hy207
       clear hy207
       have H':=aM_ H
       clear H
       have q11 : ((wrap64 (a1 + a2)) : Int) ≤ ((l0.length : Int) : Int):=oT_ (by first | (with_reducible assumption) | assumption)
       obtain ⟨i011,hi011,_,hsz11,_⟩:=info_parts info5
       have hroom11 : l0.length ≤ c0:=HC0.out
       have hC11 : Kd.C (Kd.int .u8) _ A0 l0.length l0:=HR0.out
       have ql11 : (a1 : Int) ≤ ((wrap64 (a1 + a2)) : Int):=oT_ (by first | (with_reducible assumption) | assumption)
       have q011 : (0 : Int) ≤ (a1 : Int):=oT_ (by first | (with_reducible assumption) | assumption)
       have hcut11:=cut_mid (P:=Try.prog) 27 5 .i64 .i64 Try.underlying27 hi011 1 hsz11 A0 l0.length c0 a1 (wrap64 (a1 + a2)) q011 ql11 q11 hroom11
       have hr11:=Kd.C_mid (lo:=(a1 : Int).toNat) (hi:=((wrap64 (a1 + a2)) : Int).toNat) (c:=c0) hC11 (by omega) (by omega) hroom11
       obtain ⟨A11,hA11⟩ : ∃ A1,A1 = (if c0 = (a1 : Int).toNat then A0 else (A0 : Option Addr).map (·.add ((a1 : Int).toNat * 1))):=⟨_,rfl⟩
       obtain ⟨c11,hc11⟩ : ∃ c1,c1 = c0 - (a1 : Int).toNat:=⟨_,rfl⟩
       have hy11 : y207.length = ((wrap64 (a1 + a2)) : Int).toNat - (a1 : Int).toNat:=(by rw [Ny207.out,lD_,lT_] <;> omega)
       rw [show ((l0).take ((wrap64 (a1 + a2)) : Int).toNat).drop (a1 : Int).toNat = y207 from Ny207.out.symm] at hr11
       replace hr11 : Kd.C (Kd.int .u8) _ A11 y207.length y207:=(by rw [hA11];exact hr11)
       rw [← hy11,← hA11,← hc11] at hcut11
       have HR210:=aM_ hr11
       have HC210:=aM_ (show y207.length ≤ c11 from by rw [hy11,hc11];exact Nat.sub_le_sub_right (Nat.le_trans (by omega) hroom11) _)
       clear hr11 hC11 hroom11 hi011 hsz11 hc11
       have KY11:=aM_ hy11
       have KA11:=aM_ hA11
       clear hy11 hA11
       replace q11:=eq_true q11
       go_wp2
       (try simp only [Act.put,sI_,sS_,sZ_])
       go_loopg [10,30] kj4 (fun kq v10 v30 w'=>∃ (x10_2 : Int) (x30_2 : Int),v10 = .int .i64 x10_2 ∧ v30 = .int .i64 x30_2 ∧ Aside0 (impl_numberAt.l0 kq a3 x10_2 y207 (y207.length : Int) x30_2 = some (r1,r2)) ∧ Aside0 (kq ≤ kj4) ∧ Drawn0 w w')
       case atStart=>exact ⟨(0),(0),(by first | rfl | (simp;done) | (simp [*];done)),(by first | rfl | (simp;done) | (simp [*];done)),H', ⟨Nat.le_refl _⟩,by repeat (first | exact Drawn0.refl _ | apply Drawn0.step)⟩
       case round =>
        clear H'
        try clear c1
        try clear q1
        try clear p2
        try clear c4
        try clear c4b0
        try clear c6
        try clear c6b0
        try clear p6
        try clear c7
        try clear c8
        try clear c8b0
        try clear c8b1
        try clear c9
        try clear c9b0
        try clear c9b1
        try clear c10
        try clear c10b0
        try clear c10b1
        try clear c11
        try clear q11
        try clear p2
        try clear p6
        try clear q011
        try clear q11
        obtain ⟨x10_2,x30_2,rfl,rfl,HA,HK2,⟨m2,rfl⟩⟩:=hrel
        cases gk with
        | zero=>exact absurd HA.out (by simp [impl_numberAt.l0])
        | succ k2 =>
         have H:=HA.out
         clear HA
         simp only [impl_numberAt.l0] at H
         by_cases c12 : x30_2 < (y207.length : Int)
         ·rw [if_pos c12] at H
          have c12b0 : decide (x30_2 < (y207.length : Int)) = true:=decide_eq_true c12
          clear c12
          by_cases c13 : 0 ≤ x30_2
          ·rw [if_pos c13] at H
           have c13b0 : decide (0 ≤ x30_2) = true:=decide_eq_true c13
           clear c13
           by_cases c14 : x30_2 < (y207.length : Int)
           ·rw [if_pos c14] at H
            have c14b0 : decide (x30_2 < (y207.length : Int)) = true:=decide_eq_true c14
            clear c14
            have H':=aM_ H
            clear H
            have p211 : 0 ≤ (x30_2 : Int):=oT_ (by first | (with_reducible assumption) | assumption)
            have q211 : x30_2 < (y207.length : Int):=oT_ (by first | (with_reducible assumption) | assumption)
            obtain ⟨ad211,e211,hx211_0⟩:=Kd.at_int HR210.out x30_2 p211 q211
            cases e211
            replace p211:=eq_true p211
            replace q211:=eq_true q211
            go_wp2
            go_roundg k2
            case measure=>have:=HJ4.out;have:=HK2.out;omega
            case rel=>exact ⟨(Go.bits .or .i64 (wrap64 (x10_2 * 256)) (wrap64 (Go.bits .xor .u8 (rd y207 x30_2) a3))),(wrap64 (x30_2 + 1)),(by first | rfl | (simp;done) | (simp [*];done)),(by first | rfl | (simp;done) | (simp [*];done)),H', ⟨by have:=HJ4.out;have:=HK2.out;omega⟩,by repeat (first | exact Drawn0.refl _ | apply Drawn0.step)⟩
           ·rw [if_neg c14] at H
            exact absurd H (by simp)
          ·rw [if_neg c13] at H
           exact absurd H (by simp)
         ·rw [if_neg c12] at H
          have c12b0 : decide (x30_2 < (y207.length : Int)) = false:=decide_eq_false c12
          clear c12
          simp only [Option.some.injEq,Prod.mk.injEq] at H
          obtain ⟨rfl,rfl⟩:=H
          go_wp2
          go_ret2
          exact ⟨by first | rfl | (simp;done) | (simp [*];done),by repeat (first | exact Drawn0.refl _ | apply Drawn0.step)⟩
      ·rw [if_neg c10] at H
       exact absurd H (by simp)
     ·rw [if_neg c9] at H
      exact absurd H (by simp)
    ·rw [if_neg c8] at H
     exact absurd H (by simp)
end Go.Proofs.Ytllgmgpfdnofmaa.PFnRowsRead
