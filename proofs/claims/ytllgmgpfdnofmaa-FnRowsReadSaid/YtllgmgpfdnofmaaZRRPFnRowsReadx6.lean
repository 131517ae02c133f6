import Derived.Test.YtllgmgpfdnofmaaZRRPFnRowsReadx0
import Derived.Test.YtllgmgpfdnofmaaZRRPFnRowsReadx3
import Derived.Test.YtllgmgpfdnofmaaZRRPFnRowsReadx4
import Derived.Test.YtllgmgpfdnofmaaZRRPFnRowsReadx5
namespace Go.Proofs.Ytllgmgpfdnofmaa.PFnRowsRead
open Go.RowKit Go.Proofs.YtllgmgpfdnofmaaW.PrintWords Go.Proofs.YtllgmgpfdnofmaaW.PrintLast Go.Proofs.YtllgmgpfdnofmaaW.PrintMore Go.Proofs.Ytllgmgpfdnofmaa.Xtra
attribute [local go_sem] max2_int min2_int max_two min_two max_three min_three max_four min_four str_leq str_gtr str_geq setCell_drewN cell_set2 cell_set3   -- for this text's walks alone
set_option linter.unusedVariables false
set_option linter.unusedSimpArgs false
mutual
def impl_DecodeRow.j0 : Nat → List (S119) → List Int → List Int → Int → Int → Bool → Option ((List (S116)) × Bool)
 | 0,_,_,_,_,_,_=>none
 | k + 1,x0,x1,x6,x8,x9,x42=>if x42 = true then (some (([] : List (S116)),false)) else (impl_DecodeRow.l0 k x0 x1 x6 x9 ([] : List (S116)) x8 0)
def impl_DecodeRow.l0 : Nat → List (S119) → List Int → List Int → Int → List (S116) → Int → Int → Option ((List (S116)) × Bool)
 | 0,_,_,_,_,_,_,_=>none
 | k + 1,x0,x1,x6,x9,x11,x43,x44=>if x44 < x43 then ((impl_valueAt.f k x6 x9).bind fun bt238=>(if bt238.2.2.2.2 = true then (if x11.length < 4398046511104 then (impl_DecodeRow.l0 k x0 x1 x6 bt238.2.2.2.1 (x11 ++ [(⟨bt238.1,bt238.2.1,bt238.2.2.1⟩ : S116)]) x43 (wrap64 (x44 + 1))) else (none)) else (some (([] : List (S116)),false)))) else ((impl_EncodeRow.f k x0 x11).bind fun t247=>(if (t247.length : Int) = 0 then (some (([] : List (S116)),false)) else (if (strOfNums t247).toList = (strOfNums x1).toList then (some (x11,true)) else (some (([] : List (S116)),false)))))
end
def impl_DecodeRow.f (k : Nat) (l0 : List (S119)) (l1 : List Int) : Option ((List (S116)) × Bool):=(impl_GetSum.f k l1).bind fun bt231=>((impl_GetU.f k bt231.1 0).bind fun bt235=>(if bt231.2 = true then (if bt235.2.2 = true then (if bt235.1 = (l0.length : Int) then (impl_DecodeRow.j0 k l0 l1 bt231.1 bt235.1 bt235.2.1 (decide (bt235.1 > 6))) else (impl_DecodeRow.j0 k l0 l1 bt231.1 bt235.1 bt235.2.1 true)) else (impl_DecodeRow.j0 k l0 l1 bt231.1 bt235.1 bt235.2.1 true)) else (impl_DecodeRow.j0 k l0 l1 bt231.1 bt235.1 bt235.2.1 true)))
theorem impl_DecodeRow.mono_l : ∀ k,(∀ y0 y1 y2 y3 y4 y5,LeO (impl_DecodeRow.j0 k y0 y1 y2 y3 y4 y5) (impl_DecodeRow.j0 (k + 1) y0 y1 y2 y3 y4 y5)) ∧ (∀ y0 y1 y2 y3 y4 y5 y6,LeO (impl_DecodeRow.l0 k y0 y1 y2 y3 y4 y5 y6) (impl_DecodeRow.l0 (k + 1) y0 y1 y2 y3 y4 y5 y6))
 | 0=>⟨fun _ _ _ _ _ _ r h=>by simp [impl_DecodeRow.j0] at h,fun _ _ _ _ _ _ _ r h=>by simp [impl_DecodeRow.l0] at h⟩
 | k + 1=>by
  obtain ⟨ih0,ih1⟩:=impl_DecodeRow.mono_l k
  refine ⟨?_,?_⟩
  ·intro y0 y1 y2 y3 y4 y5
   unfold impl_DecodeRow.j0
   repeat' first
   | (with_reducible exact ih0 _ _ _ _ _ _)
   | (with_reducible exact ih1 _ _ _ _ _ _ _)
   | (with_reducible exact impl_EncodeRow.mono _ _ _)
   | (with_reducible exact impl_GetSum.mono _ _)
   | (with_reducible exact impl_GetU.mono _ _ _)
   | (with_reducible exact impl_valueAt.mono _ _ _)
   | (with_reducible exact LeO.refl _)
   | (with_reducible exact LeO.none _)
   | (with_reducible refine LeO.ite ?_ ?_)
   | (with_reducible refine LeO.bind ?_ (fun _=>?_))
   | exact ih0 _ _ _ _ _ _
   | exact ih1 _ _ _ _ _ _ _
   | exact impl_EncodeRow.mono _ _ _
   | exact impl_GetSum.mono _ _
   | exact impl_GetU.mono _ _ _
   | exact impl_valueAt.mono _ _ _
   | exact LeO.none _
   | refine LeO.ite ?_ ?_
   | refine LeO.bind ?_ (fun _=>?_)
  ·intro y0 y1 y2 y3 y4 y5 y6
   unfold impl_DecodeRow.l0
   repeat' first
   | (with_reducible exact ih0 _ _ _ _ _ _)
   | (with_reducible exact ih1 _ _ _ _ _ _ _)
   | (with_reducible exact impl_EncodeRow.mono _ _ _)
   | (with_reducible exact impl_GetSum.mono _ _)
   | (with_reducible exact impl_GetU.mono _ _ _)
   | (with_reducible exact impl_valueAt.mono _ _ _)
   | (with_reducible exact LeO.refl _)
   | (with_reducible exact LeO.none _)
   | (with_reducible refine LeO.ite ?_ ?_)
   | (with_reducible refine LeO.bind ?_ (fun _=>?_))
   | exact ih0 _ _ _ _ _ _
   | exact ih1 _ _ _ _ _ _ _
   | exact impl_EncodeRow.mono _ _ _
   | exact impl_GetSum.mono _ _
   | exact impl_GetU.mono _ _ _
   | exact impl_valueAt.mono _ _ _
   | exact LeO.none _
   | refine LeO.ite ?_ ?_
   | refine LeO.bind ?_ (fun _=>?_)
theorem impl_DecodeRow.mono : ∀ a0 a1 k,LeO (impl_DecodeRow.f k a0 a1) (impl_DecodeRow.f (k + 1) a0 a1):=by
 intro a0 a1 k
 obtain ⟨ih0,ih1⟩:=impl_DecodeRow.mono_l k
 unfold impl_DecodeRow.f
 repeat' first
   | (with_reducible exact ih0 _ _ _ _ _ _)
   | (with_reducible exact ih1 _ _ _ _ _ _ _)
   | (with_reducible exact impl_EncodeRow.mono _ _ _)
   | (with_reducible exact impl_GetSum.mono _ _)
   | (with_reducible exact impl_GetU.mono _ _ _)
   | (with_reducible exact impl_valueAt.mono _ _ _)
   | (with_reducible exact LeO.refl _)
   | (with_reducible exact LeO.none _)
   | (with_reducible refine LeO.ite ?_ ?_)
   | (with_reducible refine LeO.bind ?_ (fun _=>?_))
   | exact ih0 _ _ _ _ _ _
   | exact ih1 _ _ _ _ _ _ _
   | exact impl_EncodeRow.mono _ _ _
   | exact impl_GetSum.mono _ _
   | exact impl_GetU.mono _ _ _
   | exact impl_valueAt.mono _ _ _
   | exact LeO.none _
   | refine LeO.ite ?_ ?_
   | refine LeO.bind ?_ (fun _=>?_)
set_option maxHeartbeats 8000000 in
set_option maxRecDepth 100000 in
theorem impl_DecodeRow.calls (k : Nat) (A0 : Option Addr) (c0 : Nat) (l0 : List (S119)) (A1 : Option Addr) (c1 : Nat) (l1 : List Int) (r1 : List (S116)) (r2 : Bool) (w : World) (hr0 : Kd.C k119 w A0 l0.length l0) (hc0 : l0.length ≤ c0) (hr1 : Kd.C (Kd.int .u8) w A1 l1.length l1) (hc1 : l1.length ≤ c1) (h : impl_DecodeRow.f k l0 l1 = some (r1,r2)) :
  Calls Try.prog 47 #[.slice A0 l0.length c0,.slice A1 l1.length c1] w fun e w'=>∃ v0_ : Value,e = .returned (.tuple #[v0_,.bool r2]) ∧ Kd.R k116 116 w' w.heap.size (fun _=>True) v0_ r1 ∧ Below w.heap.size w w':=by
 have hu116:=Try.underlying116
 have HR0:=aM_ hr0
 have HC0:=aM_ hc0
 clear hr0 hc0
 have HR1:=aM_ hr1
 have HC1:=aM_ hc1
 clear hr1 hc1
 have HB:=aM_ (Below.refl w.heap.size w)
 have H : ((impl_GetSum.f k l1).bind fun bt231=>((impl_GetU.f k bt231.1 0).bind fun bt235=>(if bt231.2 = true then (if bt235.2.2 = true then (if bt235.1 = (l0.length : Int) then (impl_DecodeRow.j0 k l0 l1 bt231.1 bt235.1 bt235.2.1 (decide (bt235.1 > 6))) else (impl_DecodeRow.j0 k l0 l1 bt231.1 bt235.1 bt235.2.1 true)) else (impl_DecodeRow.j0 k l0 l1 bt231.1 bt235.1 bt235.2.1 true)) else (impl_DecodeRow.j0 k l0 l1 bt231.1 bt235.1 bt235.2.1 true)))) = some (r1,r2):=h
 clear h
 replace H:=oB_ H
 obtain ⟨⟨t231,t232⟩,A30,H⟩:=H
 replace H : ((impl_GetU.f k t231 0).bind fun bt235=>(if t232 = true then (if bt235.2.2 = true then (if bt235.1 = (l0.length : Int) then (impl_DecodeRow.j0 k l0 l1 t231 bt235.1 bt235.2.1 (decide (bt235.1 > 6))) else (impl_DecodeRow.j0 k l0 l1 t231 bt235.1 bt235.2.1 true)) else (impl_DecodeRow.j0 k l0 l1 t231 bt235.1 bt235.2.1 true)) else (impl_DecodeRow.j0 k l0 l1 t231 bt235.1 bt235.2.1 true))) = some (r1,r2):=H
 have A3:=aM_ A30
 clear A30
 replace H:=oB_ H
 obtain ⟨⟨t235,t236,t237⟩,A40,H⟩:=H
 replace H : (if t232 = true then (if t237 = true then (if t235 = (l0.length : Int) then (impl_DecodeRow.j0 k l0 l1 t231 t235 t236 (decide (t235 > 6))) else (impl_DecodeRow.j0 k l0 l1 t231 t235 t236 true)) else (impl_DecodeRow.j0 k l0 l1 t231 t235 t236 true)) else (impl_DecodeRow.j0 k l0 l1 t231 t235 t236 true)) = some (r1,r2):=H
 have A4:=aM_ A40
 clear A40
 have HC5:=aM_ H
 clear H
 go_enter Try.func47,Try.ntmps47
 go_upto_region 3 with (first | ((with_reducible refine gate_callee (f:=114) rfl ?_);refine goesL_ (some 18) rfl rfl Try.func114 (by kernel_rfl) rfl #[.slice A1 l1.length c1] rfl (by (try simp only [mA_,mC_,mN_]);first | done | rfl | (simp only [lD_,lT_];rfl)) ?_;(with_reducible refine (impl_GetSum.calls k _ _ l1 t231 t232 _ ?side1 ?side2 A3.out).mono ?_);(case side1=>repeat (first | exact HR1.out | (with_reducible refine cA_ ?_ _) | (with_reducible refine cN_ ?_ _) | (with_reducible refine cD_ ?_)));(case side2=>exact HC1.out);rintro e w6 ⟨v233,rfl,ho0,hb⟩;refine ⟨_,rfl,?_⟩;have n0_:=aM_ (Kd.R_lower ho0 (bS_ (by exact bZ_ HB)));have n1_:=aM_ (bT_ (by exact bZ_ HB) hb);clear HB;have HO234:=n0_;have HB:=n1_;clear n0_ n1_;(try clear hb);(try clear hb2);(try clear hk);(try clear hi);(try clear ho0);obtain ⟨Ao7,co7,eo7⟩:=Kd.R_slice HO234.out;subst eo7) | ((with_reducible refine gate_callee (f:=78) rfl ?_);refine goesL_ (some 23) rfl rfl Try.func78 (by kernel_rfl) rfl #[.slice Ao7 t231.length co7,.int .i64 0] rfl (by (try simp only [mA_,mC_,mN_]);first | done | rfl | (simp only [lD_,lT_];rfl)) ?_;(with_reducible refine (impl_GetU.calls k _ _ t231 0 t235 t236 t237 _ ?side1 ?side2 A4.out).mono ?_);(case side1=>repeat (first | exact (Kd.R_reads' HO234.out).2.2 | (with_reducible refine cA_ ?_ _) | (with_reducible refine cN_ ?_ _) | (with_reducible refine cD_ ?_)));(case side2=>exact (Kd.R_reads' HO234.out).2.1);rintro e w' ⟨rfl,⟨nd,rfl⟩⟩;refine ⟨_,rfl,?_⟩))
 (try simp only [Act.put,sI_,sZ_,sS_])
 go_cut [42] (fun v42 wc=>∃ (kq : Nat) (x42_4 : Bool),v42 = .bool x42_4 ∧ Aside0 (impl_DecodeRow.j0 kq l0 l1 t231 t235 t236 x42_4 = some (r1,r2)) ∧ Aside0 (kq ≤ k) ∧ Aside0 (Kd.R (Kd.int .u8) 5 wc w.heap.size (fun _=>True) (.slice Ao7 t231.length co7) t231) ∧ Aside0 (Below w.heap.size w wc))
 case first =>
  have H:=HC5.out
  clear HC5
  by_cases c8 : t232 = true
  ·subst c8
   have H1 : (if t237 = true then (if t235 = (l0.length : Int) then (impl_DecodeRow.j0 k l0 l1 t231 t235 t236 (decide (t235 > 6))) else (impl_DecodeRow.j0 k l0 l1 t231 t235 t236 true)) else (impl_DecodeRow.j0 k l0 l1 t231 t235 t236 true)) = some (r1,r2):=by rw [if_pos rfl] at H;exact H
   clear H
   have H:=H1
   clear H1
   by_cases c9 : t237 = true
   ·subst c9
    have H1 : (if t235 = (l0.length : Int) then (impl_DecodeRow.j0 k l0 l1 t231 t235 t236 (decide (t235 > 6))) else (impl_DecodeRow.j0 k l0 l1 t231 t235 t236 true)) = some (r1,r2):=by rw [if_pos rfl] at H;exact H
    clear H
    have H:=H1
    clear H1
    by_cases c10 : t235 = (l0.length : Int)
    ·rw [if_pos c10] at H
     have c10b0 : (t235 == (l0.length : Int)) = true:=beq_iff_eq.mpr c10
     have c10b1 : (t235 != (l0.length : Int)) = false:=bne_eq_false_iff_eq.mpr c10
     clear c10
     (first | rw [c10b0] | (simp only [i64_w,i32_w];rw [c10b0]) | skip)
     have H':=aM_ H
     clear H
     go_wp2
     (first | go_meet | (refine Met.intro ?_;go_step;(repeat apply Exists.intro);refine ⟨?rel,?eq⟩;(case eq=>(try simp only [c10b0]);(try simp only [c10b0]);(try simp only [c10b0]);rfl)))
     case rel=>exact ⟨_,(decide (t235 > 6)),(by first | rfl | (simp;done) | (simp [*];done)),H', ⟨by first | omega | exact Nat.le_refl _⟩,⟨by exact rZ_ HO234⟩,⟨by exact bZ_ HB⟩⟩
    ·rw [if_neg c10] at H
     have c10b0 : (t235 == (l0.length : Int)) = false:=beq_eq_false_iff_ne.mpr c10
     have c10b1 : (t235 != (l0.length : Int)) = true:=bne_iff_ne.mpr c10
     (first | rw [c10b0] | (simp only [i64_w,i32_w];rw [c10b0]) | skip)
     have H':=aM_ H
     clear H
     go_wp2
     (first | go_meet | (refine Met.intro ?_;go_step;(repeat apply Exists.intro);refine ⟨?rel,?eq⟩;(case eq=>(try simp only [c10b0]);(try simp only [c10b0]);(try simp only [c10b0]);rfl)))
     case rel=>exact ⟨_,(true),(by first | rfl | (simp;done) | (simp [*];done)),H', ⟨by first | omega | exact Nat.le_refl _⟩,⟨by exact rZ_ HO234⟩,⟨by exact bZ_ HB⟩⟩
   ·replace c9:=Bool.eq_false_iff.mpr c9
    subst c9
    have H1 : (impl_DecodeRow.j0 k l0 l1 t231 t235 t236 true) = some (r1,r2):=by rw [if_neg (show ¬ (false = true) by decide)] at H;exact H
    clear H
    have H:=H1
    clear H1
    have H':=aM_ H
    clear H
    go_wp2
    (first | go_meet | (refine Met.intro ?_;go_step;(repeat apply Exists.intro);refine ⟨?rel,?eq⟩;(case eq=>(try simp only [c10b0]);(try simp only [c10b0]);(try simp only [c10b0]);rfl)))
    case rel=>exact ⟨_,(true),(by first | rfl | (simp;done) | (simp [*];done)),H', ⟨by first | omega | exact Nat.le_refl _⟩,⟨by exact rZ_ HO234⟩,⟨by exact bZ_ HB⟩⟩
  ·replace c8:=Bool.eq_false_iff.mpr c8
   subst c8
   have H1 : (impl_DecodeRow.j0 k l0 l1 t231 t235 t236 true) = some (r1,r2):=by rw [if_neg (show ¬ (false = true) by decide)] at H;exact H
   clear H
   have H:=H1
   clear H1
   have H':=aM_ H
   clear H
   go_wp2
   (first | go_meet | (refine Met.intro ?_;go_step;(repeat apply Exists.intro);refine ⟨?rel,?eq⟩;(case eq=>(try simp only [c10b0]);(try simp only [c10b0]);(try simp only [c10b0]);rfl)))
   case rel=>exact ⟨_,(true),(by first | rfl | (simp;done) | (simp [*];done)),H', ⟨by first | omega | exact Nat.le_refl _⟩,⟨by exact rZ_ HO234⟩,⟨by exact bZ_ HB⟩⟩
 case rest =>
  clear HC5
  try clear c1
  try clear p2
  try clear c4
  try clear c7
  try clear c8
  try clear c9
  try clear c10
  try clear c10b0
  try clear c10b1
  obtain ⟨kq,x42_4,rfl,HA,HJ4,HO_6,HB⟩:=hcut
  cases kq with
  | zero=>exact absurd HA.out (by simp [impl_DecodeRow.j0])
  | succ kj4 =>
   have H:=HA.out
   clear HA
   simp only [impl_DecodeRow.j0] at H
   by_cases c11 : x42_4 = true
   ·subst c11
    have H1 : (some (([] : List (S116)),false)) = some (r1,r2):=by rw [if_pos rfl] at H;exact H
    clear H
    have H:=H1
    clear H1
    simp only [Option.some.injEq,Prod.mk.injEq] at H
    obtain ⟨rfl,rfl⟩:=H
    go_wp2
    go_ret2
    exact ⟨_,by first | rfl | (simp [errW_none,errW_some] <;> rfl) | (simp [*, errW_none,errW_some] <;> rfl),by first | exact Kd.R_nil _ _ _ _ _ | exact Kd.N_nil _ _ _ _ _ | exact Kd.V_nil _ _ _ _ _ | exact Kd.Q_nil _ _ _ _ _ | exact Kd.S_nil _ _ _ _ _,by exact bZ_ HB⟩
   ·replace c11:=Bool.eq_false_iff.mpr c11
    subst c11
    have H1 : (impl_DecodeRow.l0 kj4 l0 l1 t231 t236 ([] : List (S116)) t235 0) = some (r1,r2):=by rw [if_neg (show ¬ (false = true) by decide)] at H;exact H
    clear H
    have H:=H1
    clear H1
    have H':=aM_ H
    clear H
    go_wp2
    (try simp only [Act.put,sI_,sS_,sZ_])
    go_loopg [9,11,44] kj4 (fun kq v9 v11 v44 w'=>∃ (x9_2 : Int) (x11_2 : List (S116)) (x44_2 : Int),v9 = .int .i64 x9_2 ∧ v44 = .int .i64 x44_2 ∧ Aside0 (impl_DecodeRow.l0 kq l0 l1 t231 x9_2 x11_2 t235 x44_2 = some (r1,r2)) ∧ Aside0 (kq ≤ kj4) ∧ Aside0 (Kd.R (Kd.int .u8) 5 w' w.heap.size (fun _=>True) (.slice Ao7 t231.length co7) t231) ∧ Aside0 (Kd.R k116 116 w' w.heap.size (fun _=>True) v11 x11_2) ∧ Aside0 (Below w.heap.size w w'))
    case atStart=>exact ⟨(t236),(([] : List (S116))),(0),(by first | rfl | (simp;done) | (simp [*];done)),(by first | rfl | (simp;done) | (simp [*];done)),H', ⟨Nat.le_refl _⟩,⟨by exact rZ_ HO_6⟩,⟨by first | exact Kd.R_nil _ _ _ _ _ | exact Kd.N_nil _ _ _ _ _ | exact Kd.V_nil _ _ _ _ _ | exact Kd.Q_nil _ _ _ _ _ | exact Kd.S_nil _ _ _ _ _⟩,⟨by exact bZ_ HB⟩⟩
    case round =>
     clear H'
     try clear c1
     try clear p2
     try clear c4
     try clear c7
     try clear c8
     try clear c9
     try clear c10
     try clear c10b0
     try clear c10b1
     try clear c11
     try clear p2
     obtain ⟨x9_2,x11_2,x44_2,rfl,rfl,HA,HK2,HO_6,HO_11,HB⟩:=hrel
     cases gk with
     | zero=>exact absurd HA.out (by simp [impl_DecodeRow.l0])
     | succ k2 =>
      have H:=HA.out
      clear HA
      simp only [impl_DecodeRow.l0] at H
      by_cases c12 : x44_2 < t235
      ·rw [if_pos c12] at H
       have c12b0 : decide (x44_2 < t235) = true:=decide_eq_true c12
       clear c12
       replace H:=oB_ H
       obtain ⟨⟨t238,t239,t240,t241,t242⟩,A130,H⟩:=H
       replace H : (if t242 = true then (if x11_2.length < 4398046511104 then (impl_DecodeRow.l0 k2 l0 l1 t231 t241 (x11_2 ++ [(⟨t238,t239,t240⟩ : S116)]) t235 (wrap64 (x44_2 + 1))) else (none)) else (some (([] : List (S116)),false))) = some (r1,r2):=H
       have A13:=aM_ A130
       clear A130
       by_cases c14 : t242 = true
       ·subst c14
        have H1 : (if x11_2.length < 4398046511104 then (impl_DecodeRow.l0 k2 l0 l1 t231 t241 (x11_2 ++ [(⟨t238,t239,t240⟩ : S116)]) t235 (wrap64 (x44_2 + 1))) else (none)) = some (r1,r2):=by rw [if_pos rfl] at H;exact H
        clear H
        have H:=H1
        clear H1
        by_cases c15 : x11_2.length < 4398046511104
        ·rw [if_pos c15] at H
         have LMc15:=aM_ c15
         clear c15
         obtain ⟨y244,hy244⟩ : ∃ y_ : List (S116),y_ = (x11_2 ++ [(⟨t238,t239,t240⟩ : S116)]):=⟨_,rfl⟩
         replace H : (impl_DecodeRow.l0 k2 l0 l1 t231 t241 y244 t235 (wrap64 (x44_2 + 1))) = some (r1,r2):=by first | (rw [hy244];with_reducible exact H) | (have H2_:=(Option.bind_some _ _).symm.trans H;rw [hy244];with_reducible exact H2_) | (have H2_:=(Option.bind_some _ _).symm.trans H;with_reducible exact H2_) | with_reducible exact H | (rw [hy244];exact H) | exact H
         have Ny244:=aM_ hy244
         clear hy244
         have H':=aM_ H
         clear H
         go_wp2_with (first | ((with_reducible refine gate_callee (f:=115) rfl ?_);refine goesL_ (some 49) rfl rfl Try.func115 (by kernel_rfl) rfl #[.slice Ao7 t231.length co7,.int .i64 x9_2] rfl (by (try simp only [mA_,mC_,mN_]);first | done | rfl | (simp only [lD_,lT_];rfl)) ?_;(with_reducible refine (impl_valueAt.calls k2 _ _ t231 x9_2 t238 t239 t240 t241 true _ ?side1 ?side2 A13.out).mono ?_);(case side1=>repeat (first | exact (Kd.R_reads' HO_6.out).2.2 | (with_reducible refine cA_ ?_ _) | (with_reducible refine cN_ ?_ _) | (with_reducible refine cD_ ?_)));(case side2=>exact (Kd.R_reads' HO_6.out).2.1);rintro e w16 ⟨rfl,hb⟩;refine ⟨_,rfl,?_⟩;have n0_:=aM_ (Kd.R_below (by exact rZ_ HO_6) hb);have n1_:=aM_ (Kd.R_below (by exact rZ_ HO_11) hb);have n2_:=aM_ (bT_ (by exact bZ_ HB) hb);clear HO_6;clear HO_11;clear HB;have HO_6:=n0_;have HO_11:=n1_;have HB:=n2_;clear n0_ n1_ n2_;(try clear hb);(try clear hb2);(try clear hk);(try clear hi)) | ((with_reducible refine gate_dst (N:=12) rfl ?_);(try (refine gate_guard (by rfl) ?_;dsimp only));refine box_event ?hg (N:=12) ?hd (cs:=#[.int .i64 0,.int .i64 0,.string (⟨#[]⟩ : ByteArray)]) (t:=116) ?hr ?_;(case hd=>rfl);(case hg=>rfl);(case hr=>first | (go_simp;done) | (go_simp;rfl));intro gb243 hg w17 hbox hb;have n0_:=aM_ (Kd.R_below (by exact rZ_ HO_6) hb);have n1_:=aM_ (Kd.R_below (Kd.R_elderB (by exact rZ_ HO_11) gb243 (Nat.le_of_eq hg.symm)) hb);have n2_:=aM_ (bT_ (by exact bZ_ HB) hb);have n3_:=aM_ (hbox);have n4_:=aM_ ((by rw [hg];exact (bS_ (by exact bZ_ HB)) : w.heap.size ≤ gb243));have n5_:=aM_ ((by rw [hg];exact (bS_ (by exact bZ_ HB)) : w.heap.size ≤ gb243));clear HO_6;clear HO_11;clear HB;have HO_6:=n0_;have HO_11:=n1_;have HB:=n2_;have BK243:=n3_;have GW243:=n4_;have GE243:=n5_;clear n0_ n1_ n2_ n3_ n4_ n5_;clear hb hbox hg;have hcz18_0 : w17.cell? ⟨gb243,0,none⟩ = some (.int .i64 0):=(kC_ BK243.out 0).trans rfl;have hcz18_1 : w17.cell? ⟨gb243,1,none⟩ = some (.int .i64 0):=(kC_ BK243.out 1).trans rfl;have hcz18_2 : w17.cell? ⟨gb243,2,none⟩ = some (.string (⟨#[]⟩ : ByteArray)):=(kC_ BK243.out 2).trans rfl;have hfz18_0:=kF_ BK243.out 0;have hfz18_1:=kF_ BK243.out 1;have hfz18_2:=kF_ BK243.out 2) | ((with_reducible refine gate_builtin (b:=.append) (xs:=#[.tmp 55,.tmp 57]) rfl ?_);(try (refine gate_guard (by rfl) ?_;dsimp only));at_builtin;refine Kd.R_append k116 (w0:=w) w.heap.size rfl (.tmp 55) (.tmp 57) 50 116 (.agg #[(.int .i64 0),(.int .i64 0),(.string ⟨#[]⟩)]) 32 rfl Try.underlying50 info116 rfl (by decide) (by omega) u11 x11_2 (⟨t238,t239,t240⟩ : S116) [.int .i64 t238,.int .i64 t239,.string t240] (fun k_=>k_ ≠ gb243) (fun _=>False) rfl (by first | (go_simp;done) | (go_simp;rfl)) ?aP (fun _ hk=>hk.elim) ?aF ?aO ?aB ?aS ?aL ?_;(case aP=>exact k116_mkM _ _ _ (⟨t238,t239,t240⟩ : S116));(case aB=>exact (by exact bZ_ HB));(case aF=>exact (fun k_ hk=>Kd.freshB (g:=gb243) (o:=.cells #[.int .i64 t238,.int .i64 t239,.string t240] 116 (0,0)) (by (with_reducible repeat (first | refine kN_ ?_ _ | refine kD_ ?_ | refine kA_ ?_ _));refine kP_ (cs:=#[.int .i64 t238,.int .i64 t239,.string (⟨#[]⟩ : ByteArray)]) ?_ 2 _ rfl;(with_reducible repeat (first | refine kN_ ?_ _ | refine kD_ ?_ | refine kA_ ?_ _));refine kP_ (cs:=#[.int .i64 t238,.int .i64 0,.string (⟨#[]⟩ : ByteArray)]) ?_ 1 _ rfl;(with_reducible repeat (first | refine kN_ ?_ _ | refine kD_ ?_ | refine kA_ ?_ _));refine kP_ (cs:=#[.int .i64 0,.int .i64 0,.string (⟨#[]⟩ : ByteArray)]) ?_ 0 _ rfl;exact kZ_ BK243) k_ hk));(case aO=>exact (by (with_reducible repeat (first | apply rA_ | apply rN_ | apply rD_));exact Kd.R_mono (Kd.R_far (p:=⟨gb243,2,none⟩) (Kd.R_far (p:=⟨gb243,1,none⟩) (Kd.R_far (p:=⟨gb243,0,none⟩) (Kd.R_mono HO_11.out (fun k_ hk=>(⟨hk,hk.2⟩ : _ ∧ k_ ≠ gb243))) (fun _ hk=>hk.2) (.int .i64 t238)) (fun _ hk=>hk.2) (.int .i64 t239)) (fun _ hk=>hk.2) (.string t240)) (fun _ hk=>hk.1.2)));(case aS=>exact (bS_ (by exact bZ_ HB)));(case aL=>have:=LMc15.out;omega);intro v245 w19 ho hb hg hat;rw [← Ny244.out] at ho;have n0_:=aM_ (Kd.R_over' (by (with_reducible repeat (first | apply rA_ | apply rN_ | apply rD_));exact (Kd.R_mono (Kd.R_far (p:=⟨gb243,2,none⟩) (Kd.R_far (p:=⟨gb243,1,none⟩) (Kd.R_far (p:=⟨gb243,0,none⟩) (Kd.R_types HO_6.out BK243.out (by decide)) (fun _ hk=>hk.2) (.int .i64 t238)) (fun _ hk=>hk.2) (.int .i64 t239)) (fun _ hk=>hk.2) (.string t240)) (fun _ h_=>h_.1))) (Kd.R_typed (by (with_reducible repeat (first | apply rA_ | apply rN_ | apply rD_));exact (Kd.R_mono (Kd.R_far (p:=⟨gb243,2,none⟩) (Kd.R_far (p:=⟨gb243,1,none⟩) (Kd.R_far (p:=⟨gb243,0,none⟩) (Kd.R_mono HO_11.out (fun k_ hk=>(⟨hk,hk.2⟩ : _ ∧ k_ ≠ gb243))) (fun _ hk=>hk.2) (.int .i64 t238)) (fun _ hk=>hk.2) (.int .i64 t239)) (fun _ hk=>hk.2) (.string t240)) (fun _ h_=>h_.1)))) (by decide) hg);have n1_:=aM_ (blk_grown (g:=gb243) (o:=.cells #[.int .i64 t238,.int .i64 t239,.string t240] 116 (0,0)) (by (with_reducible repeat (first | refine kN_ ?_ _ | refine kD_ ?_ | refine kA_ ?_ _));refine kP_ (cs:=#[.int .i64 t238,.int .i64 t239,.string (⟨#[]⟩ : ByteArray)]) ?_ 2 _ rfl;(with_reducible repeat (first | refine kN_ ?_ _ | refine kD_ ?_ | refine kA_ ?_ _));refine kP_ (cs:=#[.int .i64 t238,.int .i64 0,.string (⟨#[]⟩ : ByteArray)]) ?_ 1 _ rfl;(with_reducible repeat (first | refine kN_ ?_ _ | refine kD_ ?_ | refine kA_ ?_ _));refine kP_ (cs:=#[.int .i64 0,.int .i64 0,.string (⟨#[]⟩ : ByteArray)]) ?_ 0 _ rfl;exact kZ_ BK243) hg (Kd.R_away HO_11.out (fun _ hk=>hk.2)));have n2_:=aM_ (hb);have n3_:=aM_ (ho);clear HO_6;clear BK243;clear HB;clear HO_11;have HO_6:=n0_;have BK243:=n1_;have HB:=n2_;have HO246:=n3_;clear n0_ n1_ n2_ n3_;clear ho hb hg hat))
         go_roundg k2
         case measure=>have:=HJ4.out;have:=HK2.out;omega
         case rel=>exact ⟨(t241),(y244),(wrap64 (x44_2 + 1)),(by first | rfl | (simp;done) | (simp [*];done)),(by first | rfl | (simp;done) | (simp [*];done)),H', ⟨by have:=HJ4.out;have:=HK2.out;omega⟩,⟨by exact rZ_ HO_6⟩,⟨by (with_reducible repeat (first | apply rA_ | apply rN_ | apply rD_));exact Kd.R_mono HO246.out (fun _ hk=>trivial)⟩,⟨by exact bZ_ HB⟩⟩
        ·rw [if_neg c15] at H
         exact absurd H (by simp)
       ·replace c14:=Bool.eq_false_iff.mpr c14
        subst c14
        have H1 : (some (([] : List (S116)),false)) = some (r1,r2):=by rw [if_neg (show ¬ (false = true) by decide)] at H;exact H
        clear H
        have H:=H1
        clear H1
        simp only [Option.some.injEq,Prod.mk.injEq] at H
        obtain ⟨rfl,rfl⟩:=H
        go_wp2_with (first | ((with_reducible refine gate_callee (f:=115) rfl ?_);refine goesL_ (some 49) rfl rfl Try.func115 (by kernel_rfl) rfl #[.slice Ao7 t231.length co7,.int .i64 x9_2] rfl (by (try simp only [mA_,mC_,mN_]);first | done | rfl | (simp only [lD_,lT_];rfl)) ?_;(with_reducible refine (impl_valueAt.calls k2 _ _ t231 x9_2 t238 t239 t240 t241 false _ ?side1 ?side2 A13.out).mono ?_);(case side1=>repeat (first | exact (Kd.R_reads' HO_6.out).2.2 | (with_reducible refine cA_ ?_ _) | (with_reducible refine cN_ ?_ _) | (with_reducible refine cD_ ?_)));(case side2=>exact (Kd.R_reads' HO_6.out).2.1);rintro e w20 ⟨rfl,hb⟩;refine ⟨_,rfl,?_⟩;have n0_:=aM_ (Kd.R_below (by exact rZ_ HO_6) hb);have n1_:=aM_ (Kd.R_below (by exact rZ_ HO_11) hb);have n2_:=aM_ (bT_ (by exact bZ_ HB) hb);clear HO_6;clear HO_11;clear HB;have HO_6:=n0_;have HO_11:=n1_;have HB:=n2_;clear n0_ n1_ n2_;(try clear hb);(try clear hb2);(try clear hk);(try clear hi)) | ((with_reducible refine gate_dst (N:=12) rfl ?_);(try (refine gate_guard (by rfl) ?_;dsimp only));refine box_event ?hg (N:=12) ?hd (cs:=#[.int .i64 0,.int .i64 0,.string (⟨#[]⟩ : ByteArray)]) (t:=116) ?hr ?_;(case hd=>rfl);(case hg=>rfl);(case hr=>first | (go_simp;done) | (go_simp;rfl));intro gb243 hg w21 hbox hb;have n0_:=aM_ (Kd.R_below (by exact rZ_ HO_6) hb);have n1_:=aM_ (Kd.R_below (Kd.R_elderB (by exact rZ_ HO_11) gb243 (Nat.le_of_eq hg.symm)) hb);have n2_:=aM_ (bT_ (by exact bZ_ HB) hb);have n3_:=aM_ (hbox);have n4_:=aM_ ((by rw [hg];exact (bS_ (by exact bZ_ HB)) : w.heap.size ≤ gb243));have n5_:=aM_ ((by rw [hg];exact (bS_ (by exact bZ_ HB)) : w.heap.size ≤ gb243));clear HO_6;clear HO_11;clear HB;have HO_6:=n0_;have HO_11:=n1_;have HB:=n2_;have BK243:=n3_;have GW243:=n4_;have GE243:=n5_;clear n0_ n1_ n2_ n3_ n4_ n5_;clear hb hbox hg;have hcz22_0 : w21.cell? ⟨gb243,0,none⟩ = some (.int .i64 0):=(kC_ BK243.out 0).trans rfl;have hcz22_1 : w21.cell? ⟨gb243,1,none⟩ = some (.int .i64 0):=(kC_ BK243.out 1).trans rfl;have hcz22_2 : w21.cell? ⟨gb243,2,none⟩ = some (.string (⟨#[]⟩ : ByteArray)):=(kC_ BK243.out 2).trans rfl;have hfz22_0:=kF_ BK243.out 0;have hfz22_1:=kF_ BK243.out 1;have hfz22_2:=kF_ BK243.out 2))
        go_ret2
        exact ⟨_,by first | rfl | (simp [errW_none,errW_some] <;> rfl) | (simp [*, errW_none,errW_some] <;> rfl),by first | exact Kd.R_nil _ _ _ _ _ | exact Kd.N_nil _ _ _ _ _ | exact Kd.V_nil _ _ _ _ _ | exact Kd.Q_nil _ _ _ _ _ | exact Kd.S_nil _ _ _ _ _,by exact bZ_ HB⟩
      ·rw [if_neg c12] at H
       have c12b0 : decide (x44_2 < t235) = false:=decide_eq_false c12
       clear c12
       replace H:=oB_ H
       obtain ⟨t247,A230,H⟩:=H
       replace H : (if (t247.length : Int) = 0 then (some (([] : List (S116)),false)) else (if (strOfNums t247).toList = (strOfNums l1).toList then (some (x11_2,true)) else (some (([] : List (S116)),false)))) = some (r1,r2):=H
       have A23:=aM_ A230
       clear A230
       by_cases c24 : (t247.length : Int) = 0
       ·rw [if_pos c24] at H
        have c24b0 : ((t247.length : Int) == 0) = true:=beq_iff_eq.mpr c24
        have c24b1 : ((t247.length : Int) != 0) = false:=bne_eq_false_iff_eq.mpr c24
        clear c24
        simp only [Option.some.injEq,Prod.mk.injEq] at H
        obtain ⟨rfl,rfl⟩:=H
        obtain ⟨Ao25,co25,eo25⟩:=Kd.R_slice HO_11.out
        subst eo25
        go_wp2_with (first | ((with_reducible refine gate_callee (f:=39) rfl ?_);refine goesL_ (some 63) rfl rfl Try.func39 (by kernel_rfl) rfl #[.slice A0 l0.length c0,.slice Ao25 x11_2.length co25] rfl (by (try simp only [mA_,mC_,mN_]);first | done | rfl | (simp only [lD_,lT_];rfl)) ?_;(with_reducible refine (impl_EncodeRow.calls k2 _ _ l0 _ _ x11_2 t247 _ ?side1 ?side2 ?side3 ?side4 A23.out).mono ?_);(case side1=>repeat (first | exact (Kd.C_below HR0.out HB.out) | (with_reducible refine cA_ ?_ _) | (with_reducible refine cN_ ?_ _) | (with_reducible refine cD_ ?_)));(case side2=>exact HC0.out);(case side3=>repeat (first | exact (Kd.R_reads' HO_11.out).2.2 | (with_reducible refine cA_ ?_ _) | (with_reducible refine cN_ ?_ _) | (with_reducible refine cD_ ?_)));(case side4=>exact (Kd.R_reads' HO_11.out).2.1);rintro e w26 ⟨v248,rfl,ho0,hb⟩;refine ⟨_,rfl,?_⟩;have n0_:=aM_ (Kd.R_elder' (by exact rZ_ HO_6) (Kd.R_base ho0) hb);have n1_:=aM_ (Kd.R_below (by exact rZ_ HO_11) hb);have n2_:=aM_ (Kd.R_lower (Kd.R_new' ho0 (Kd.R_lt (by exact rZ_ HO_6))) (bS_ (by exact bZ_ HB)));have n3_:=aM_ (bT_ (by exact bZ_ HB) hb);clear HO_6;clear HO_11;clear HB;have HO_6:=n0_;have HO_11:=n1_;have HO249:=n2_;have HB:=n3_;clear n0_ n1_ n2_ n3_;(try clear hb);(try clear hb2);(try clear hk);(try clear hi);(try clear ho0);obtain ⟨Ao27,co27,eo27⟩:=Kd.R_slice HO249.out;subst eo27))
        go_ret2
        exact ⟨_,by first | rfl | (simp [errW_none,errW_some] <;> rfl) | (simp [*, errW_none,errW_some] <;> rfl),by first | exact Kd.R_nil _ _ _ _ _ | exact Kd.N_nil _ _ _ _ _ | exact Kd.V_nil _ _ _ _ _ | exact Kd.Q_nil _ _ _ _ _ | exact Kd.S_nil _ _ _ _ _,by exact bZ_ HB⟩
       ·rw [if_neg c24] at H
        have c24b0 : ((t247.length : Int) == 0) = false:=beq_eq_false_iff_ne.mpr c24
        have c24b1 : ((t247.length : Int) != 0) = true:=bne_iff_ne.mpr c24
        have c24b2 : ¬ (t247 = []):=fun h_=>c24 (by rw [h_];rfl)
        by_cases c28 : (strOfNums t247).toList = (strOfNums l1).toList
        ·rw [if_pos c28] at H
         have c28b0 : ((strOfNums t247).toList == (strOfNums l1).toList) = true:=beq_iff_eq.mpr c28
         have c28b1 : ((strOfNums t247).toList != (strOfNums l1).toList) = false:=bne_eq_false_iff_eq.mpr c28
         clear c28
         simp only [Option.some.injEq,Prod.mk.injEq] at H
         obtain ⟨rfl,rfl⟩:=H
         obtain ⟨Ao29,co29,eo29⟩:=Kd.R_slice HO_11.out
         subst eo29
         go_wp2_with (first | ((with_reducible refine gate_callee (f:=39) rfl ?_);refine goesL_ (some 63) rfl rfl Try.func39 (by kernel_rfl) rfl #[.slice A0 l0.length c0,.slice Ao29 x11_2.length co29] rfl (by (try simp only [mA_,mC_,mN_]);first | done | rfl | (simp only [lD_,lT_];rfl)) ?_;(with_reducible refine (impl_EncodeRow.calls k2 _ _ l0 _ _ x11_2 t247 _ ?side1 ?side2 ?side3 ?side4 A23.out).mono ?_);(case side1=>repeat (first | exact (Kd.C_below HR0.out HB.out) | (with_reducible refine cA_ ?_ _) | (with_reducible refine cN_ ?_ _) | (with_reducible refine cD_ ?_)));(case side2=>exact HC0.out);(case side3=>repeat (first | exact (Kd.R_reads' HO_11.out).2.2 | (with_reducible refine cA_ ?_ _) | (with_reducible refine cN_ ?_ _) | (with_reducible refine cD_ ?_)));(case side4=>exact (Kd.R_reads' HO_11.out).2.1);rintro e w30 ⟨v248,rfl,ho0,hb⟩;refine ⟨_,rfl,?_⟩;have n0_:=aM_ (Kd.R_elder' (by exact rZ_ HO_6) (Kd.R_base ho0) hb);have n1_:=aM_ (Kd.R_below (by exact rZ_ HO_11) hb);have n2_:=aM_ (Kd.R_lower (Kd.R_new' ho0 (Kd.R_lt (by exact rZ_ HO_6))) (bS_ (by exact bZ_ HB)));have n3_:=aM_ (bT_ (by exact bZ_ HB) hb);clear HO_6;clear HO_11;clear HB;have HO_6:=n0_;have HO_11:=n1_;have HO249:=n2_;have HB:=n3_;clear n0_ n1_ n2_ n3_;(try clear hb);(try clear hb2);(try clear hk);(try clear hi);(try clear ho0);obtain ⟨Ao31,co31,eo31⟩:=Kd.R_slice HO249.out;subst eo31;have hcv32:=own_string (P:=Try.prog) Try.underlying27 Try.underlying5 Try.underlying9 (Kd.own_of_R HO249.out);have hcv33:=Kd.C_string (P:=Try.prog) (A:=A1) (c:=c1) Try.underlying27 Try.underlying5 Try.underlying9 (Kd.C_below HR1.out HB.out);have hcw250:=fun (n_ : Nat)=>Kd.C_string (P:=Try.prog) (A:=A1) (c:=c1) Try.underlying27 Try.underlying5 Try.underlying9 (cN_ ((Kd.C_below HR1.out HB.out)) n_)))
         go_ret2
         exact ⟨_,by first | rfl | (simp [errW_none,errW_some] <;> rfl) | (simp [*, errW_none,errW_some] <;> rfl),by exact rZ_ HO_11,by exact bZ_ HB⟩
        ·rw [if_neg c28] at H
         have c28b0 : ((strOfNums t247).toList == (strOfNums l1).toList) = false:=beq_eq_false_iff_ne.mpr c28
         have c28b1 : ((strOfNums t247).toList != (strOfNums l1).toList) = true:=bne_iff_ne.mpr c28
         simp only [Option.some.injEq,Prod.mk.injEq] at H
         obtain ⟨rfl,rfl⟩:=H
         obtain ⟨Ao34,co34,eo34⟩:=Kd.R_slice HO_11.out
         subst eo34
         go_wp2_with (first | ((with_reducible refine gate_callee (f:=39) rfl ?_);refine goesL_ (some 63) rfl rfl Try.func39 (by kernel_rfl) rfl #[.slice A0 l0.length c0,.slice Ao34 x11_2.length co34] rfl (by (try simp only [mA_,mC_,mN_]);first | done | rfl | (simp only [lD_,lT_];rfl)) ?_;(with_reducible refine (impl_EncodeRow.calls k2 _ _ l0 _ _ x11_2 t247 _ ?side1 ?side2 ?side3 ?side4 A23.out).mono ?_);(case side1=>repeat (first | exact (Kd.C_below HR0.out HB.out) | (with_reducible refine cA_ ?_ _) | (with_reducible refine cN_ ?_ _) | (with_reducible refine cD_ ?_)));(case side2=>exact HC0.out);(case side3=>repeat (first | exact (Kd.R_reads' HO_11.out).2.2 | (with_reducible refine cA_ ?_ _) | (with_reducible refine cN_ ?_ _) | (with_reducible refine cD_ ?_)));(case side4=>exact (Kd.R_reads' HO_11.out).2.1);rintro e w35 ⟨v248,rfl,ho0,hb⟩;refine ⟨_,rfl,?_⟩;have n0_:=aM_ (Kd.R_elder' (by exact rZ_ HO_6) (Kd.R_base ho0) hb);have n1_:=aM_ (Kd.R_below (by exact rZ_ HO_11) hb);have n2_:=aM_ (Kd.R_lower (Kd.R_new' ho0 (Kd.R_lt (by exact rZ_ HO_6))) (bS_ (by exact bZ_ HB)));have n3_:=aM_ (bT_ (by exact bZ_ HB) hb);clear HO_6;clear HO_11;clear HB;have HO_6:=n0_;have HO_11:=n1_;have HO249:=n2_;have HB:=n3_;clear n0_ n1_ n2_ n3_;(try clear hb);(try clear hb2);(try clear hk);(try clear hi);(try clear ho0);obtain ⟨Ao36,co36,eo36⟩:=Kd.R_slice HO249.out;subst eo36;have hcv37:=own_string (P:=Try.prog) Try.underlying27 Try.underlying5 Try.underlying9 (Kd.own_of_R HO249.out);have hcv38:=Kd.C_string (P:=Try.prog) (A:=A1) (c:=c1) Try.underlying27 Try.underlying5 Try.underlying9 (Kd.C_below HR1.out HB.out);have hcw251:=fun (n_ : Nat)=>Kd.C_string (P:=Try.prog) (A:=A1) (c:=c1) Try.underlying27 Try.underlying5 Try.underlying9 (cN_ ((Kd.C_below HR1.out HB.out)) n_)))
         go_ret2
         exact ⟨_,by first | rfl | (simp [errW_none,errW_some] <;> rfl) | (simp [*, errW_none,errW_some] <;> rfl),by first | exact Kd.R_nil _ _ _ _ _ | exact Kd.N_nil _ _ _ _ _ | exact Kd.V_nil _ _ _ _ _ | exact Kd.Q_nil _ _ _ _ _ | exact Kd.S_nil _ _ _ _ _,by exact bZ_ HB⟩
def spec_l1In.f (a0 : Int) (a1 : Int) (a2 : Int) : Option (Bool):=if a0 ≥ a1 then (some (decide (a0 ≤ a2))) else (some false)
set_option maxHeartbeats 8000000 in
set_option maxRecDepth 100000 in
theorem spec_l1In.calls (a0 : Int) (a1 : Int) (a2 : Int) (r : Bool) (w : World) (h : spec_l1In.f a0 a1 a2 = some r) :
  Calls Try.prog 89 #[.int .i64 a0,.int .i64 a1,.int .i64 a2] w fun e w'=>e = .returned (.bool r) ∧ Drawn0 w w':=by
 have H : (if a0 ≥ a1 then (some (decide (a0 ≤ a2))) else (some false)) = some r:=h
 clear h
 by_cases c4 : a0 ≥ a1
 ·rw [if_pos c4] at H
  have c4b0 : decide (a1 ≤ a0) = true:=decide_eq_true c4
  clear c4
  obtain rfl:=Option.some.inj H
  go_enter Try.func89,Try.ntmps89
  go_wp2
  go_ret
  exact ⟨by first | rfl | (simp;done) | (simp [*];done),by repeat (first | exact Drawn0.refl _ | apply Drawn0.step)⟩
 ·rw [if_neg c4] at H
  have c4b0 : decide (a1 ≤ a0) = false:=decide_eq_false c4
  clear c4
  obtain rfl:=Option.some.inj H
  go_enter Try.func89,Try.ntmps89
  go_wp2
  go_ret
  exact ⟨by first | rfl | (simp;done) | (simp [*];done),by repeat (first | exact Drawn0.refl _ | apply Drawn0.step)⟩
def spec_PartOk.f (a0_0 : Int) (a0_1 : Int) (a0_2 : Bool) (a0_3 : Bool) : Option (Bool):=(spec_l1In.f a0_0 0 9).bind fun t253=>(if t253 = true then ((spec_l1In.f a0_1 1 4).bind fun t254=>(some t254)) else (some false))
set_option maxHeartbeats 8000000 in
set_option maxRecDepth 100000 in
theorem spec_PartOk.calls (a0_0 : Int) (a0_1 : Int) (a0_2 : Bool) (a0_3 : Bool) (r : Bool) (w : World) (h : spec_PartOk.f a0_0 a0_1 a0_2 a0_3 = some r) :
  Calls Try.prog 159 #[.agg #[.int .i64 a0_0,.int .i64 a0_1,.bool a0_2,.bool a0_3]] w fun e w'=>e = .returned (.bool r) ∧ Below w.heap.size w w':=by
 have hu119:=Try.underlying119
 have HB:=aM_ (Below.refl w.heap.size w)
 have H : ((spec_l1In.f a0_0 0 9).bind fun t253=>(if t253 = true then ((spec_l1In.f a0_1 1 4).bind fun t254=>(some t254)) else (some false))) = some r:=h
 clear h
 replace H:=oB_ H
 obtain ⟨t253,A20,H⟩:=H
 replace H : (if t253 = true then ((spec_l1In.f a0_1 1 4).bind fun t254=>(some t254)) else (some false)) = some r:=H
 have A2:=aM_ A20
 clear A20
 by_cases c3 : t253 = true
 ·subst c3
  have H1 : ((spec_l1In.f a0_1 1 4).bind fun t254=>(some t254)) = some r:=by rw [if_pos rfl] at H;exact H
  clear H
  have H:=H1
  clear H1
  replace H:=oB_ H
  obtain ⟨t254,A40,H⟩:=H
  replace H : (some t254) = some r:=H
  have A4:=aM_ A40
  clear A40
  obtain rfl:=Option.some.inj H
  go_enter Try.func159,Try.ntmps159
  go_wp2_with (first | ((with_reducible refine gate_dst (N:=1) rfl ?_);refine box_event ?hg (N:=1) ?hd (cs:=#[.int .i64 a0_0,.int .i64 a0_1,.bool a0_2,.bool a0_3]) (t:=119) ?hr ?_;(case hd=>rfl);(case hg=>rfl);(case hr=>first | (go_simp;done) | (go_simp;rfl));intro gb252 hg w5 hbox hb;have n0_:=aM_ (bT_ (by exact bZ_ HB) hb);have n1_:=aM_ (hbox);have n2_:=aM_ ((by rw [hg];exact (bS_ (by exact bZ_ HB)) : w.heap.size ≤ gb252));have n3_:=aM_ ((by rw [hg];exact (bS_ (by exact bZ_ HB)) : w.heap.size ≤ gb252));clear HB;have HB:=n0_;have BK252:=n1_;have GW252:=n2_;have GE252:=n3_;clear n0_ n1_ n2_ n3_;clear hb hbox hg;have hcz6_0 : w5.cell? ⟨gb252,0,none⟩ = some (.int .i64 a0_0):=(kC_ BK252.out 0).trans rfl;have hcz6_1 : w5.cell? ⟨gb252,1,none⟩ = some (.int .i64 a0_1):=(kC_ BK252.out 1).trans rfl;have hcz6_2 : w5.cell? ⟨gb252,2,none⟩ = some (.bool a0_2):=(kC_ BK252.out 2).trans rfl;have hcz6_3 : w5.cell? ⟨gb252,3,none⟩ = some (.bool a0_3):=(kC_ BK252.out 3).trans rfl;have hfz6_0:=kF_ BK252.out 0;have hfz6_1:=kF_ BK252.out 1;have hfz6_2:=kF_ BK252.out 2;have hfz6_3:=kF_ BK252.out 3) | ((with_reducible refine gate_callee (f:=89) rfl ?_);refine goesL_ (some 5) rfl rfl Try.func89 (by kernel_rfl) rfl #[.int .i64 a0_0,.int .i64 0,.int .i64 9] rfl (by (try simp only [mA_,mC_,mN_]);first | done | rfl | (simp only [lD_,lT_];rfl)) ?_;(with_reducible refine (spec_l1In.calls a0_0 0 9 true _ A2.out).mono ?_);rintro e w' ⟨rfl,⟨nd,rfl⟩⟩;refine ⟨_,rfl,?_⟩) | (go_at_call 89;(with_reducible refine (spec_l1In.calls a0_1 1 4 t254 _ A4.out).mono ?_);rintro e w' ⟨rfl,⟨nd,rfl⟩⟩))
  go_ret
  exact ⟨by first | rfl | (simp [errW_none,errW_some] <;> rfl) | (simp [*, errW_none,errW_some] <;> rfl),by exact bZ_ HB⟩
 ·replace c3:=Bool.eq_false_iff.mpr c3
  subst c3
  have H1 : (some false) = some r:=by rw [if_neg (show ¬ (false = true) by decide)] at H;exact H
  clear H
  have H:=H1
  clear H1
  obtain rfl:=Option.some.inj H
  go_enter Try.func159,Try.ntmps159
  go_wp2_with (first | ((with_reducible refine gate_dst (N:=1) rfl ?_);refine box_event ?hg (N:=1) ?hd (cs:=#[.int .i64 a0_0,.int .i64 a0_1,.bool a0_2,.bool a0_3]) (t:=119) ?hr ?_;(case hd=>rfl);(case hg=>rfl);(case hr=>first | (go_simp;done) | (go_simp;rfl));intro gb252 hg w7 hbox hb;have n0_:=aM_ (bT_ (by exact bZ_ HB) hb);have n1_:=aM_ (hbox);have n2_:=aM_ ((by rw [hg];exact (bS_ (by exact bZ_ HB)) : w.heap.size ≤ gb252));have n3_:=aM_ ((by rw [hg];exact (bS_ (by exact bZ_ HB)) : w.heap.size ≤ gb252));clear HB;have HB:=n0_;have BK252:=n1_;have GW252:=n2_;have GE252:=n3_;clear n0_ n1_ n2_ n3_;clear hb hbox hg;have hcz8_0 : w7.cell? ⟨gb252,0,none⟩ = some (.int .i64 a0_0):=(kC_ BK252.out 0).trans rfl;have hcz8_1 : w7.cell? ⟨gb252,1,none⟩ = some (.int .i64 a0_1):=(kC_ BK252.out 1).trans rfl;have hcz8_2 : w7.cell? ⟨gb252,2,none⟩ = some (.bool a0_2):=(kC_ BK252.out 2).trans rfl;have hcz8_3 : w7.cell? ⟨gb252,3,none⟩ = some (.bool a0_3):=(kC_ BK252.out 3).trans rfl;have hfz8_0:=kF_ BK252.out 0;have hfz8_1:=kF_ BK252.out 1;have hfz8_2:=kF_ BK252.out 2;have hfz8_3:=kF_ BK252.out 3) | ((with_reducible refine gate_callee (f:=89) rfl ?_);refine goesL_ (some 5) rfl rfl Try.func89 (by kernel_rfl) rfl #[.int .i64 a0_0,.int .i64 0,.int .i64 9] rfl (by (try simp only [mA_,mC_,mN_]);first | done | rfl | (simp only [lD_,lT_];rfl)) ?_;(with_reducible refine (spec_l1In.calls a0_0 0 9 false _ A2.out).mono ?_);rintro e w' ⟨rfl,⟨nd,rfl⟩⟩;refine ⟨_,rfl,?_⟩))
  go_ret
  exact ⟨by first | rfl | (simp [errW_none,errW_some] <;> rfl) | (simp [*, errW_none,errW_some] <;> rfl),by exact bZ_ HB⟩
def spec_PlanOk.l0 : Nat → List (S119) → Int → Option (Bool)
 | 0,_,_=>none
 | k + 1,x0,x3=>if x3 < (x0.length : Int) then (if 0 ≤ x3 then ((spec_PartOk.f ((rd_T119 x0 x3).f0) ((rd_T119 x0 x3).f1) ((rd_T119 x0 x3).f2) ((rd_T119 x0 x3).f3)).bind fun t256=>(if t256 = true then (spec_PlanOk.l0 k x0 (wrap64 (x3 + 1))) else (some false))) else (none)) else (some (decide ((x0.length : Int) ≤ 6)))
def spec_PlanOk.f (k : Nat) (l0 : List (S119)) : Option (Bool):=spec_PlanOk.l0 k l0 0
theorem spec_PlanOk.mono_l : ∀ k,(∀ y0 y1,LeO (spec_PlanOk.l0 k y0 y1) (spec_PlanOk.l0 (k + 1) y0 y1))
 | 0=>fun _ _ r h=>by simp [spec_PlanOk.l0] at h
 | k + 1=>by
  have ih0:=spec_PlanOk.mono_l k
  ·intro y0 y1
   unfold spec_PlanOk.l0
   repeat' first
   | (with_reducible exact ih0 _ _)
   | (with_reducible exact LeO.refl _)
   | (with_reducible exact LeO.none _)
   | (with_reducible refine LeO.ite ?_ ?_)
   | (with_reducible refine LeO.bind ?_ (fun _=>?_))
   | exact ih0 _ _
   | exact LeO.none _
   | refine LeO.ite ?_ ?_
   | refine LeO.bind ?_ (fun _=>?_)
theorem spec_PlanOk.mono : ∀ a0 k,LeO (spec_PlanOk.f k a0) (spec_PlanOk.f (k + 1) a0):=by
 intro a0 k
 have ih0:=spec_PlanOk.mono_l k
 unfold spec_PlanOk.f
 repeat' first
   | (with_reducible exact ih0 _ _)
   | (with_reducible exact LeO.refl _)
   | (with_reducible exact LeO.none _)
   | (with_reducible refine LeO.ite ?_ ?_)
   | (with_reducible refine LeO.bind ?_ (fun _=>?_))
   | exact ih0 _ _
   | exact LeO.none _
   | refine LeO.ite ?_ ?_
   | refine LeO.bind ?_ (fun _=>?_)
set_option maxHeartbeats 8000000 in
set_option maxRecDepth 100000 in
theorem spec_PlanOk.calls (k : Nat) (A0 : Option Addr) (c0 : Nat) (l0 : List (S119)) (r : Bool) (w : World) (hr0 : Kd.C k119 w A0 l0.length l0) (hc0 : l0.length ≤ c0) (h : spec_PlanOk.f k l0 = some r) :
  Calls Try.prog 110 #[.slice A0 l0.length c0] w fun e w'=>e = .returned (.bool r) ∧ Below w.heap.size w w':=by
 have hu119:=Try.underlying119
 have HR0:=aM_ hr0
 have HC0:=aM_ hc0
 clear hr0 hc0
 have HB:=aM_ (Below.refl w.heap.size w)
 have H : (spec_PlanOk.l0 k l0 0) = some r:=h
 clear h
 have H':=aM_ H
 clear H
 go_enter Try.func110,Try.ntmps110
 go_wp2
 (try simp only [Act.put,sI_,sS_,sZ_])
 go_loopg [3] k (fun kq v3 w'=>∃ (x3_1 : Int),v3 = .int .i64 x3_1 ∧ Aside0 (spec_PlanOk.l0 kq l0 x3_1 = some r) ∧ Aside0 (kq ≤ k) ∧ Aside0 (Below w.heap.size w w'))
 case atStart=>exact ⟨(0),(by first | rfl | (simp;done) | (simp [*];done)),H', ⟨Nat.le_refl _⟩,⟨by exact bZ_ HB⟩⟩
 case round =>
  clear H'
  try clear c1
  obtain ⟨x3_1,rfl,HA,HK1,HB⟩:=hrel
  cases gk with
  | zero=>exact absurd HA.out (by simp [spec_PlanOk.l0])
  | succ k1 =>
   have H:=HA.out
   clear HA
   simp only [spec_PlanOk.l0] at H
   by_cases c2 : x3_1 < (l0.length : Int)
   ·rw [if_pos c2] at H
    have c2b0 : decide (x3_1 < (l0.length : Int)) = true:=decide_eq_true c2
    clear c2
    by_cases c3 : 0 ≤ x3_1
    ·rw [if_pos c3] at H
     have c3b0 : decide (0 ≤ x3_1) = true:=decide_eq_true c3
     clear c3
     replace H:=oB_ H
     obtain ⟨t256,A40,H⟩:=H
     replace H : (if t256 = true then (spec_PlanOk.l0 k1 l0 (wrap64 (x3_1 + 1))) else (some false)) = some r:=H
     have A4:=aM_ A40
     clear A40
     by_cases c5 : t256 = true
     ·subst c5
      have H1 : (spec_PlanOk.l0 k1 l0 (wrap64 (x3_1 + 1))) = some r:=by rw [if_pos rfl] at H;exact H
      clear H
      have H:=H1
      clear H1
      have H':=aM_ H
      clear H
      have p255 : 0 ≤ (x3_1 : Int):=oT_ (by first | (with_reducible assumption) | assumption)
      have q255 : x3_1 < (l0.length : Int):=oT_ (by first | (with_reducible assumption) | assumption)
      obtain ⟨ad255,e255,hx255_0,hx255_1,hx255_2,hx255_3⟩:=at_T119 HR0.out x3_1 p255 q255
      cases e255
      replace hx255_0:=(HB.out.cell (wL_ w _ hx255_0)).trans hx255_0
      replace hx255_1:=(HB.out.cell (wL_ w _ hx255_1)).trans hx255_1
      replace hx255_2:=(HB.out.cell (wL_ w _ hx255_2)).trans hx255_2
      replace hx255_3:=(HB.out.cell (wL_ w _ hx255_3)).trans hx255_3
      replace p255:=eq_true p255
      replace q255:=eq_true q255
      go_wp2_with (first | ((with_reducible refine gate_callee (f:=159) rfl ?_);refine goesL_ (some 14) rfl rfl Try.func159 (by kernel_rfl) rfl #[.agg #[.int .i64 ((rd_T119 l0 x3_1).f0),.int .i64 ((rd_T119 l0 x3_1).f1),.bool ((rd_T119 l0 x3_1).f2),.bool ((rd_T119 l0 x3_1).f3)]] rfl (by (try simp only [mA_,mC_,mN_]);first | done | rfl | (simp only [lD_,lT_];rfl)) ?_;(with_reducible refine (spec_PartOk.calls ((rd_T119 l0 x3_1).f0) ((rd_T119 l0 x3_1).f1) ((rd_T119 l0 x3_1).f2) ((rd_T119 l0 x3_1).f3) true _ A4.out).mono ?_);rintro e w6 ⟨rfl,hb⟩;refine ⟨_,rfl,?_⟩;have n0_:=aM_ (bT_ (by exact bZ_ HB) hb);clear HB;have HB:=n0_;clear n0_;(try clear hb);(try clear hb2);(try clear hk);(try clear hi)))
      go_roundg k1
      case measure=>have:=HK1.out;omega
      case rel=>exact ⟨(wrap64 (x3_1 + 1)),(by first | rfl | (simp;done) | (simp [*];done)),H', ⟨by have:=HK1.out;omega⟩,⟨by exact bZ_ HB⟩⟩
     ·replace c5:=Bool.eq_false_iff.mpr c5
      subst c5
      have H1 : (some false) = some r:=by rw [if_neg (show ¬ (false = true) by decide)] at H;exact H
      clear H
      have H:=H1
      clear H1
      obtain rfl:=Option.some.inj H
      have p255 : 0 ≤ (x3_1 : Int):=oT_ (by first | (with_reducible assumption) | assumption)
      have q255 : x3_1 < (l0.length : Int):=oT_ (by first | (with_reducible assumption) | assumption)
      obtain ⟨ad255,e255,hx255_0,hx255_1,hx255_2,hx255_3⟩:=at_T119 HR0.out x3_1 p255 q255
      cases e255
      replace hx255_0:=(HB.out.cell (wL_ w _ hx255_0)).trans hx255_0
      replace hx255_1:=(HB.out.cell (wL_ w _ hx255_1)).trans hx255_1
      replace hx255_2:=(HB.out.cell (wL_ w _ hx255_2)).trans hx255_2
      replace hx255_3:=(HB.out.cell (wL_ w _ hx255_3)).trans hx255_3
      replace p255:=eq_true p255
      replace q255:=eq_true q255
      go_wp2_with (first | ((with_reducible refine gate_callee (f:=159) rfl ?_);refine goesL_ (some 14) rfl rfl Try.func159 (by kernel_rfl) rfl #[.agg #[.int .i64 ((rd_T119 l0 x3_1).f0),.int .i64 ((rd_T119 l0 x3_1).f1),.bool ((rd_T119 l0 x3_1).f2),.bool ((rd_T119 l0 x3_1).f3)]] rfl (by (try simp only [mA_,mC_,mN_]);first | done | rfl | (simp only [lD_,lT_];rfl)) ?_;(with_reducible refine (spec_PartOk.calls ((rd_T119 l0 x3_1).f0) ((rd_T119 l0 x3_1).f1) ((rd_T119 l0 x3_1).f2) ((rd_T119 l0 x3_1).f3) false _ A4.out).mono ?_);rintro e w7 ⟨rfl,hb⟩;refine ⟨_,rfl,?_⟩;have n0_:=aM_ (bT_ (by exact bZ_ HB) hb);clear HB;have HB:=n0_;clear n0_;(try clear hb);(try clear hb2);(try clear hk);(try clear hi)))
      go_ret
      exact ⟨by first | rfl | (simp [errW_none,errW_some] <;> rfl) | (simp [*, errW_none,errW_some] <;> rfl),by exact bZ_ HB⟩
    ·rw [if_neg c3] at H
     exact absurd H (by simp)
   ·rw [if_neg c2] at H
    have c2b0 : decide (x3_1 < (l0.length : Int)) = false:=decide_eq_false c2
    clear c2
    obtain rfl:=Option.some.inj H
    go_wp2
    go_ret
    exact ⟨by first | rfl | (simp [errW_none,errW_some] <;> rfl) | (simp [*, errW_none,errW_some] <;> rfl),by exact bZ_ HB⟩
def spec_ValOk.f (a0_0 : Int) (a0_1 : Int) (a0_2 : ByteArray) : Option (Bool):=if a0_0 = 0 then (if a0_1 = 0 then (some (a0_2.toList == ([] : List UInt8))) else (some false)) else (if a0_0 = 1 then ((spec_l1In.f a0_1 (-2147483648) 2147483647).bind fun t258=>(if t258 = true then (some (a0_2.toList == ([] : List UInt8))) else (some false))) else (if a0_0 = 2 then ((spec_l1In.f a0_1 (-1000000000000000) 1000000000000000).bind fun t259=>(if t259 = true then (some (a0_2.toList == ([] : List UInt8))) else (some false))) else (if a0_0 = 3 then (if (a0_2.size : Int) ≤ 30 then (some (a0_1 == 0)) else (some false)) else (if a0_0 = 4 then ((spec_l1In.f a0_1 0 1).bind fun t260=>(if t260 = true then (some (a0_2.toList == ([] : List UInt8))) else (some false))) else (some false)))))
set_option maxHeartbeats 8000000 in
set_option maxRecDepth 100000 in
theorem spec_ValOk.calls (a0_0 : Int) (a0_1 : Int) (a0_2 : ByteArray) (r : Bool) (w : World) (h : spec_ValOk.f a0_0 a0_1 a0_2 = some r) :
  Calls Try.prog 181 #[.agg #[.int .i64 a0_0,.int .i64 a0_1,.string a0_2]] w fun e w'=>e = .returned (.bool r) ∧ Below w.heap.size w w':=by
 have hu116:=Try.underlying116
 have HB:=aM_ (Below.refl w.heap.size w)
 have H : (if a0_0 = 0 then (if a0_1 = 0 then (some (a0_2.toList == ([] : List UInt8))) else (some false)) else (if a0_0 = 1 then ((spec_l1In.f a0_1 (-2147483648) 2147483647).bind fun t258=>(if t258 = true then (some (a0_2.toList == ([] : List UInt8))) else (some false))) else (if a0_0 = 2 then ((spec_l1In.f a0_1 (-1000000000000000) 1000000000000000).bind fun t259=>(if t259 = true then (some (a0_2.toList == ([] : List UInt8))) else (some false))) else (if a0_0 = 3 then (if (a0_2.size : Int) ≤ 30 then (some (a0_1 == 0)) else (some false)) else (if a0_0 = 4 then ((spec_l1In.f a0_1 0 1).bind fun t260=>(if t260 = true then (some (a0_2.toList == ([] : List UInt8))) else (some false))) else (some false)))))) = some r:=h
 clear h
 by_cases c2 : a0_0 = 0
 ·rw [if_pos c2] at H
  have c2b0 : (a0_0 == 0) = true:=beq_iff_eq.mpr c2
  have c2b1 : (a0_0 != 0) = false:=bne_eq_false_iff_eq.mpr c2
  clear c2
  by_cases c3 : a0_1 = 0
  ·rw [if_pos c3] at H
   have c3b0 : (a0_1 == 0) = true:=beq_iff_eq.mpr c3
   have c3b1 : (a0_1 != 0) = false:=bne_eq_false_iff_eq.mpr c3
   clear c3
   obtain rfl:=Option.some.inj H
   go_enter Try.func181,Try.ntmps181
   go_wp2_with (first | ((with_reducible refine gate_dst (N:=1) rfl ?_);refine box_event ?hg (N:=1) ?hd (cs:=#[.int .i64 a0_0,.int .i64 a0_1,.string a0_2]) (t:=116) ?hr ?_;(case hd=>rfl);(case hg=>rfl);(case hr=>first | (go_simp;done) | (go_simp;rfl));intro gb257 hg w4 hbox hb;have n0_:=aM_ (bT_ (by exact bZ_ HB) hb);have n1_:=aM_ (hbox);have n2_:=aM_ ((by rw [hg];exact (bS_ (by exact bZ_ HB)) : w.heap.size ≤ gb257));have n3_:=aM_ ((by rw [hg];exact (bS_ (by exact bZ_ HB)) : w.heap.size ≤ gb257));clear HB;have HB:=n0_;have BK257:=n1_;have GW257:=n2_;have GE257:=n3_;clear n0_ n1_ n2_ n3_;clear hb hbox hg;have hcz5_0 : w4.cell? ⟨gb257,0,none⟩ = some (.int .i64 a0_0):=(kC_ BK257.out 0).trans rfl;have hcz5_1 : w4.cell? ⟨gb257,1,none⟩ = some (.int .i64 a0_1):=(kC_ BK257.out 1).trans rfl;have hcz5_2 : w4.cell? ⟨gb257,2,none⟩ = some (.string a0_2):=(kC_ BK257.out 2).trans rfl;have hfz5_0:=kF_ BK257.out 0;have hfz5_1:=kF_ BK257.out 1;have hfz5_2:=kF_ BK257.out 2))
   go_ret
   exact ⟨by first | rfl | (simp [errW_none,errW_some] <;> rfl) | (simp [*, errW_none,errW_some] <;> rfl),by exact bZ_ HB⟩
  ·rw [if_neg c3] at H
   have c3b0 : (a0_1 == 0) = false:=beq_eq_false_iff_ne.mpr c3
   have c3b1 : (a0_1 != 0) = true:=bne_iff_ne.mpr c3
   obtain rfl:=Option.some.inj H
   go_enter Try.func181,Try.ntmps181
   go_wp2_with (first | ((with_reducible refine gate_dst (N:=1) rfl ?_);refine box_event ?hg (N:=1) ?hd (cs:=#[.int .i64 a0_0,.int .i64 a0_1,.string a0_2]) (t:=116) ?hr ?_;(case hd=>rfl);(case hg=>rfl);(case hr=>first | (go_simp;done) | (go_simp;rfl));intro gb257 hg w6 hbox hb;have n0_:=aM_ (bT_ (by exact bZ_ HB) hb);have n1_:=aM_ (hbox);have n2_:=aM_ ((by rw [hg];exact (bS_ (by exact bZ_ HB)) : w.heap.size ≤ gb257));have n3_:=aM_ ((by rw [hg];exact (bS_ (by exact bZ_ HB)) : w.heap.size ≤ gb257));clear HB;have HB:=n0_;have BK257:=n1_;have GW257:=n2_;have GE257:=n3_;clear n0_ n1_ n2_ n3_;clear hb hbox hg;have hcz7_0 : w6.cell? ⟨gb257,0,none⟩ = some (.int .i64 a0_0):=(kC_ BK257.out 0).trans rfl;have hcz7_1 : w6.cell? ⟨gb257,1,none⟩ = some (.int .i64 a0_1):=(kC_ BK257.out 1).trans rfl;have hcz7_2 : w6.cell? ⟨gb257,2,none⟩ = some (.string a0_2):=(kC_ BK257.out 2).trans rfl;have hfz7_0:=kF_ BK257.out 0;have hfz7_1:=kF_ BK257.out 1;have hfz7_2:=kF_ BK257.out 2))
   go_ret
   exact ⟨by first | rfl | (simp [errW_none,errW_some] <;> rfl) | (simp [*, errW_none,errW_some] <;> rfl),by exact bZ_ HB⟩
 ·rw [if_neg c2] at H
  have c2b0 : (a0_0 == 0) = false:=beq_eq_false_iff_ne.mpr c2
  have c2b1 : (a0_0 != 0) = true:=bne_iff_ne.mpr c2
  by_cases c8 : a0_0 = 1
  ·rw [if_pos c8] at H
   have c8b0 : (a0_0 == 1) = true:=beq_iff_eq.mpr c8
   have c8b1 : (a0_0 != 1) = false:=bne_eq_false_iff_eq.mpr c8
   clear c8
   replace H:=oB_ H
   obtain ⟨t258,A90,H⟩:=H
   replace H : (if t258 = true then (some (a0_2.toList == ([] : List UInt8))) else (some false)) = some r:=H
   have A9:=aM_ A90
   clear A90
   by_cases c10 : t258 = true
   ·subst c10
    have H1 : (some (a0_2.toList == ([] : List UInt8))) = some r:=by rw [if_pos rfl] at H;exact H
    clear H
    have H:=H1
    clear H1
    obtain rfl:=Option.some.inj H
    go_enter Try.func181,Try.ntmps181
    go_wp2_with (first | ((with_reducible refine gate_dst (N:=1) rfl ?_);refine box_event ?hg (N:=1) ?hd (cs:=#[.int .i64 a0_0,.int .i64 a0_1,.string a0_2]) (t:=116) ?hr ?_;(case hd=>rfl);(case hg=>rfl);(case hr=>first | (go_simp;done) | (go_simp;rfl));intro gb257 hg w11 hbox hb;have n0_:=aM_ (bT_ (by exact bZ_ HB) hb);have n1_:=aM_ (hbox);have n2_:=aM_ ((by rw [hg];exact (bS_ (by exact bZ_ HB)) : w.heap.size ≤ gb257));have n3_:=aM_ ((by rw [hg];exact (bS_ (by exact bZ_ HB)) : w.heap.size ≤ gb257));clear HB;have HB:=n0_;have BK257:=n1_;have GW257:=n2_;have GE257:=n3_;clear n0_ n1_ n2_ n3_;clear hb hbox hg;have hcz12_0 : w11.cell? ⟨gb257,0,none⟩ = some (.int .i64 a0_0):=(kC_ BK257.out 0).trans rfl;have hcz12_1 : w11.cell? ⟨gb257,1,none⟩ = some (.int .i64 a0_1):=(kC_ BK257.out 1).trans rfl;have hcz12_2 : w11.cell? ⟨gb257,2,none⟩ = some (.string a0_2):=(kC_ BK257.out 2).trans rfl;have hfz12_0:=kF_ BK257.out 0;have hfz12_1:=kF_ BK257.out 1;have hfz12_2:=kF_ BK257.out 2) | ((with_reducible refine gate_callee (f:=89) rfl ?_);refine goesL_ (some 19) rfl rfl Try.func89 (by kernel_rfl) rfl #[.int .i64 a0_1,.int .i64 (-2147483648),.int .i64 2147483647] rfl (by (try simp only [mA_,mC_,mN_]);first | done | rfl | (simp only [lD_,lT_];rfl)) ?_;(with_reducible refine (spec_l1In.calls a0_1 (-2147483648) 2147483647 true _ A9.out).mono ?_);rintro e w' ⟨rfl,⟨nd,rfl⟩⟩;refine ⟨_,rfl,?_⟩))
    go_ret
    exact ⟨by first | rfl | (simp [errW_none,errW_some] <;> rfl) | (simp [*, errW_none,errW_some] <;> rfl),by exact bZ_ HB⟩
   ·replace c10:=Bool.eq_false_iff.mpr c10
    subst c10
    have H1 : (some false) = some r:=by rw [if_neg (show ¬ (false = true) by decide)] at H;exact H
    clear H
    have H:=H1
    clear H1
    obtain rfl:=Option.some.inj H
    go_enter Try.func181,Try.ntmps181
    go_wp2_with (first | ((with_reducible refine gate_dst (N:=1) rfl ?_);refine box_event ?hg (N:=1) ?hd (cs:=#[.int .i64 a0_0,.int .i64 a0_1,.string a0_2]) (t:=116) ?hr ?_;(case hd=>rfl);(case hg=>rfl);(case hr=>first | (go_simp;done) | (go_simp;rfl));intro gb257 hg w13 hbox hb;have n0_:=aM_ (bT_ (by exact bZ_ HB) hb);have n1_:=aM_ (hbox);have n2_:=aM_ ((by rw [hg];exact (bS_ (by exact bZ_ HB)) : w.heap.size ≤ gb257));have n3_:=aM_ ((by rw [hg];exact (bS_ (by exact bZ_ HB)) : w.heap.size ≤ gb257));clear HB;have HB:=n0_;have BK257:=n1_;have GW257:=n2_;have GE257:=n3_;clear n0_ n1_ n2_ n3_;clear hb hbox hg;have hcz14_0 : w13.cell? ⟨gb257,0,none⟩ = some (.int .i64 a0_0):=(kC_ BK257.out 0).trans rfl;have hcz14_1 : w13.cell? ⟨gb257,1,none⟩ = some (.int .i64 a0_1):=(kC_ BK257.out 1).trans rfl;have hcz14_2 : w13.cell? ⟨gb257,2,none⟩ = some (.string a0_2):=(kC_ BK257.out 2).trans rfl;have hfz14_0:=kF_ BK257.out 0;have hfz14_1:=kF_ BK257.out 1;have hfz14_2:=kF_ BK257.out 2) | ((with_reducible refine gate_callee (f:=89) rfl ?_);refine goesL_ (some 19) rfl rfl Try.func89 (by kernel_rfl) rfl #[.int .i64 a0_1,.int .i64 (-2147483648),.int .i64 2147483647] rfl (by (try simp only [mA_,mC_,mN_]);first | done | rfl | (simp only [lD_,lT_];rfl)) ?_;(with_reducible refine (spec_l1In.calls a0_1 (-2147483648) 2147483647 false _ A9.out).mono ?_);rintro e w' ⟨rfl,⟨nd,rfl⟩⟩;refine ⟨_,rfl,?_⟩))
    go_ret
    exact ⟨by first | rfl | (simp [errW_none,errW_some] <;> rfl) | (simp [*, errW_none,errW_some] <;> rfl),by exact bZ_ HB⟩
  ·rw [if_neg c8] at H
   have c8b0 : (a0_0 == 1) = false:=beq_eq_false_iff_ne.mpr c8
   have c8b1 : (a0_0 != 1) = true:=bne_iff_ne.mpr c8
   by_cases c15 : a0_0 = 2
   ·rw [if_pos c15] at H
    have c15b0 : (a0_0 == 2) = true:=beq_iff_eq.mpr c15
    have c15b1 : (a0_0 != 2) = false:=bne_eq_false_iff_eq.mpr c15
    clear c15
    replace H:=oB_ H
    obtain ⟨t259,A160,H⟩:=H
    replace H : (if t259 = true then (some (a0_2.toList == ([] : List UInt8))) else (some false)) = some r:=H
    have A16:=aM_ A160
    clear A160
    by_cases c17 : t259 = true
    ·subst c17
     have H1 : (some (a0_2.toList == ([] : List UInt8))) = some r:=by rw [if_pos rfl] at H;exact H
     clear H
     have H:=H1
     clear H1
     obtain rfl:=Option.some.inj H
     go_enter Try.func181,Try.ntmps181
     go_wp2_with (first | ((with_reducible refine gate_dst (N:=1) rfl ?_);refine box_event ?hg (N:=1) ?hd (cs:=#[.int .i64 a0_0,.int .i64 a0_1,.string a0_2]) (t:=116) ?hr ?_;(case hd=>rfl);(case hg=>rfl);(case hr=>first | (go_simp;done) | (go_simp;rfl));intro gb257 hg w18 hbox hb;have n0_:=aM_ (bT_ (by exact bZ_ HB) hb);have n1_:=aM_ (hbox);have n2_:=aM_ ((by rw [hg];exact (bS_ (by exact bZ_ HB)) : w.heap.size ≤ gb257));have n3_:=aM_ ((by rw [hg];exact (bS_ (by exact bZ_ HB)) : w.heap.size ≤ gb257));clear HB;have HB:=n0_;have BK257:=n1_;have GW257:=n2_;have GE257:=n3_;clear n0_ n1_ n2_ n3_;clear hb hbox hg;have hcz19_0 : w18.cell? ⟨gb257,0,none⟩ = some (.int .i64 a0_0):=(kC_ BK257.out 0).trans rfl;have hcz19_1 : w18.cell? ⟨gb257,1,none⟩ = some (.int .i64 a0_1):=(kC_ BK257.out 1).trans rfl;have hcz19_2 : w18.cell? ⟨gb257,2,none⟩ = some (.string a0_2):=(kC_ BK257.out 2).trans rfl;have hfz19_0:=kF_ BK257.out 0;have hfz19_1:=kF_ BK257.out 1;have hfz19_2:=kF_ BK257.out 2) | ((with_reducible refine gate_callee (f:=89) rfl ?_);refine goesL_ (some 29) rfl rfl Try.func89 (by kernel_rfl) rfl #[.int .i64 a0_1,.int .i64 (-1000000000000000),.int .i64 1000000000000000] rfl (by (try simp only [mA_,mC_,mN_]);first | done | rfl | (simp only [lD_,lT_];rfl)) ?_;(with_reducible refine (spec_l1In.calls a0_1 (-1000000000000000) 1000000000000000 true _ A16.out).mono ?_);rintro e w' ⟨rfl,⟨nd,rfl⟩⟩;refine ⟨_,rfl,?_⟩))
     go_ret
     exact ⟨by first | rfl | (simp [errW_none,errW_some] <;> rfl) | (simp [*, errW_none,errW_some] <;> rfl),by exact bZ_ HB⟩
    ·replace c17:=Bool.eq_false_iff.mpr c17
     subst c17
     have H1 : (some false) = some r:=by rw [if_neg (show ¬ (false = true) by decide)] at H;exact H
     clear H
     have H:=H1
     clear H1
     obtain rfl:=Option.some.inj H
     go_enter Try.func181,Try.ntmps181
     go_wp2_with (first | ((with_reducible refine gate_dst (N:=1) rfl ?_);refine box_event ?hg (N:=1) ?hd (cs:=#[.int .i64 a0_0,.int .i64 a0_1,.string a0_2]) (t:=116) ?hr ?_;(case hd=>rfl);(case hg=>rfl);(case hr=>first | (go_simp;done) | (go_simp;rfl));intro gb257 hg w20 hbox hb;have n0_:=aM_ (bT_ (by exact bZ_ HB) hb);have n1_:=aM_ (hbox);have n2_:=aM_ ((by rw [hg];exact (bS_ (by exact bZ_ HB)) : w.heap.size ≤ gb257));have n3_:=aM_ ((by rw [hg];exact (bS_ (by exact bZ_ HB)) : w.heap.size ≤ gb257));clear HB;have HB:=n0_;have BK257:=n1_;have GW257:=n2_;have GE257:=n3_;clear n0_ n1_ n2_ n3_;clear hb hbox hg;have hcz21_0 : w20.cell? ⟨gb257,0,none⟩ = some (.int .i64 a0_0):=(kC_ BK257.out 0).trans rfl;have hcz21_1 : w20.cell? ⟨gb257,1,none⟩ = some (.int .i64 a0_1):=(kC_ BK257.out 1).trans rfl;have hcz21_2 : w20.cell? ⟨gb257,2,none⟩ = some (.string a0_2):=(kC_ BK257.out 2).trans rfl;have hfz21_0:=kF_ BK257.out 0;have hfz21_1:=kF_ BK257.out 1;have hfz21_2:=kF_ BK257.out 2) | ((with_reducible refine gate_callee (f:=89) rfl ?_);refine goesL_ (some 29) rfl rfl Try.func89 (by kernel_rfl) rfl #[.int .i64 a0_1,.int .i64 (-1000000000000000),.int .i64 1000000000000000] rfl (by (try simp only [mA_,mC_,mN_]);first | done | rfl | (simp only [lD_,lT_];rfl)) ?_;(with_reducible refine (spec_l1In.calls a0_1 (-1000000000000000) 1000000000000000 false _ A16.out).mono ?_);rintro e w' ⟨rfl,⟨nd,rfl⟩⟩;refine ⟨_,rfl,?_⟩))
     go_ret
     exact ⟨by first | rfl | (simp [errW_none,errW_some] <;> rfl) | (simp [*, errW_none,errW_some] <;> rfl),by exact bZ_ HB⟩
   ·rw [if_neg c15] at H
    have c15b0 : (a0_0 == 2) = false:=beq_eq_false_iff_ne.mpr c15
    have c15b1 : (a0_0 != 2) = true:=bne_iff_ne.mpr c15
    by_cases c22 : a0_0 = 3
    ·rw [if_pos c22] at H
     have c22b0 : (a0_0 == 3) = true:=beq_iff_eq.mpr c22
     have c22b1 : (a0_0 != 3) = false:=bne_eq_false_iff_eq.mpr c22
     clear c22
     by_cases c23 : (a0_2.size : Int) ≤ 30
     ·rw [if_pos c23] at H
      have c23b0 : decide ((a0_2.size : Int) ≤ 30) = true:=decide_eq_true c23
      have c23b1 : decide (a0_2.size ≤ 30) = true:=decide_eq_true (by omega)
      clear c23
      obtain rfl:=Option.some.inj H
      go_enter Try.func181,Try.ntmps181
      go_wp2_with (first | ((with_reducible refine gate_dst (N:=1) rfl ?_);refine box_event ?hg (N:=1) ?hd (cs:=#[.int .i64 a0_0,.int .i64 a0_1,.string a0_2]) (t:=116) ?hr ?_;(case hd=>rfl);(case hg=>rfl);(case hr=>first | (go_simp;done) | (go_simp;rfl));intro gb257 hg w24 hbox hb;have n0_:=aM_ (bT_ (by exact bZ_ HB) hb);have n1_:=aM_ (hbox);have n2_:=aM_ ((by rw [hg];exact (bS_ (by exact bZ_ HB)) : w.heap.size ≤ gb257));have n3_:=aM_ ((by rw [hg];exact (bS_ (by exact bZ_ HB)) : w.heap.size ≤ gb257));clear HB;have HB:=n0_;have BK257:=n1_;have GW257:=n2_;have GE257:=n3_;clear n0_ n1_ n2_ n3_;clear hb hbox hg;have hcz25_0 : w24.cell? ⟨gb257,0,none⟩ = some (.int .i64 a0_0):=(kC_ BK257.out 0).trans rfl;have hcz25_1 : w24.cell? ⟨gb257,1,none⟩ = some (.int .i64 a0_1):=(kC_ BK257.out 1).trans rfl;have hcz25_2 : w24.cell? ⟨gb257,2,none⟩ = some (.string a0_2):=(kC_ BK257.out 2).trans rfl;have hfz25_0:=kF_ BK257.out 0;have hfz25_1:=kF_ BK257.out 1;have hfz25_2:=kF_ BK257.out 2))
      go_ret
      exact ⟨by first | rfl | (simp [errW_none,errW_some] <;> rfl) | (simp [*, errW_none,errW_some] <;> rfl),by exact bZ_ HB⟩
     ·rw [if_neg c23] at H
      have c23b0 : decide ((a0_2.size : Int) ≤ 30) = false:=decide_eq_false c23
      have c23b1 : decide (a0_2.size ≤ 30) = false:=decide_eq_false (by omega)
      clear c23
      obtain rfl:=Option.some.inj H
      go_enter Try.func181,Try.ntmps181
      go_wp2_with (first | ((with_reducible refine gate_dst (N:=1) rfl ?_);refine box_event ?hg (N:=1) ?hd (cs:=#[.int .i64 a0_0,.int .i64 a0_1,.string a0_2]) (t:=116) ?hr ?_;(case hd=>rfl);(case hg=>rfl);(case hr=>first | (go_simp;done) | (go_simp;rfl));intro gb257 hg w26 hbox hb;have n0_:=aM_ (bT_ (by exact bZ_ HB) hb);have n1_:=aM_ (hbox);have n2_:=aM_ ((by rw [hg];exact (bS_ (by exact bZ_ HB)) : w.heap.size ≤ gb257));have n3_:=aM_ ((by rw [hg];exact (bS_ (by exact bZ_ HB)) : w.heap.size ≤ gb257));clear HB;have HB:=n0_;have BK257:=n1_;have GW257:=n2_;have GE257:=n3_;clear n0_ n1_ n2_ n3_;clear hb hbox hg;have hcz27_0 : w26.cell? ⟨gb257,0,none⟩ = some (.int .i64 a0_0):=(kC_ BK257.out 0).trans rfl;have hcz27_1 : w26.cell? ⟨gb257,1,none⟩ = some (.int .i64 a0_1):=(kC_ BK257.out 1).trans rfl;have hcz27_2 : w26.cell? ⟨gb257,2,none⟩ = some (.string a0_2):=(kC_ BK257.out 2).trans rfl;have hfz27_0:=kF_ BK257.out 0;have hfz27_1:=kF_ BK257.out 1;have hfz27_2:=kF_ BK257.out 2))
      go_ret
      exact ⟨by first | rfl | (simp [errW_none,errW_some] <;> rfl) | (simp [*, errW_none,errW_some] <;> rfl),by exact bZ_ HB⟩
    ·rw [if_neg c22] at H
     have c22b0 : (a0_0 == 3) = false:=beq_eq_false_iff_ne.mpr c22
     have c22b1 : (a0_0 != 3) = true:=bne_iff_ne.mpr c22
     by_cases c28 : a0_0 = 4
     ·rw [if_pos c28] at H
      have c28b0 : (a0_0 == 4) = true:=beq_iff_eq.mpr c28
      have c28b1 : (a0_0 != 4) = false:=bne_eq_false_iff_eq.mpr c28
      clear c28
      replace H:=oB_ H
      obtain ⟨t260,A290,H⟩:=H
      replace H : (if t260 = true then (some (a0_2.toList == ([] : List UInt8))) else (some false)) = some r:=H
      have A29:=aM_ A290
      clear A290
      by_cases c30 : t260 = true
      ·subst c30
       have H1 : (some (a0_2.toList == ([] : List UInt8))) = some r:=by rw [if_pos rfl] at H;exact H
       clear H
       have H:=H1
       clear H1
       obtain rfl:=Option.some.inj H
       go_enter Try.func181,Try.ntmps181
       go_wp2_with (first | ((with_reducible refine gate_dst (N:=1) rfl ?_);refine box_event ?hg (N:=1) ?hd (cs:=#[.int .i64 a0_0,.int .i64 a0_1,.string a0_2]) (t:=116) ?hr ?_;(case hd=>rfl);(case hg=>rfl);(case hr=>first | (go_simp;done) | (go_simp;rfl));intro gb257 hg w31 hbox hb;have n0_:=aM_ (bT_ (by exact bZ_ HB) hb);have n1_:=aM_ (hbox);have n2_:=aM_ ((by rw [hg];exact (bS_ (by exact bZ_ HB)) : w.heap.size ≤ gb257));have n3_:=aM_ ((by rw [hg];exact (bS_ (by exact bZ_ HB)) : w.heap.size ≤ gb257));clear HB;have HB:=n0_;have BK257:=n1_;have GW257:=n2_;have GE257:=n3_;clear n0_ n1_ n2_ n3_;clear hb hbox hg;have hcz32_0 : w31.cell? ⟨gb257,0,none⟩ = some (.int .i64 a0_0):=(kC_ BK257.out 0).trans rfl;have hcz32_1 : w31.cell? ⟨gb257,1,none⟩ = some (.int .i64 a0_1):=(kC_ BK257.out 1).trans rfl;have hcz32_2 : w31.cell? ⟨gb257,2,none⟩ = some (.string a0_2):=(kC_ BK257.out 2).trans rfl;have hfz32_0:=kF_ BK257.out 0;have hfz32_1:=kF_ BK257.out 1;have hfz32_2:=kF_ BK257.out 2) | ((with_reducible refine gate_callee (f:=89) rfl ?_);refine goesL_ (some 50) rfl rfl Try.func89 (by kernel_rfl) rfl #[.int .i64 a0_1,.int .i64 0,.int .i64 1] rfl (by (try simp only [mA_,mC_,mN_]);first | done | rfl | (simp only [lD_,lT_];rfl)) ?_;(with_reducible refine (spec_l1In.calls a0_1 0 1 true _ A29.out).mono ?_);rintro e w' ⟨rfl,⟨nd,rfl⟩⟩;refine ⟨_,rfl,?_⟩))
       go_ret
       exact ⟨by first | rfl | (simp [errW_none,errW_some] <;> rfl) | (simp [*, errW_none,errW_some] <;> rfl),by exact bZ_ HB⟩
      ·replace c30:=Bool.eq_false_iff.mpr c30
       subst c30
       have H1 : (some false) = some r:=by rw [if_neg (show ¬ (false = true) by decide)] at H;exact H
       clear H
       have H:=H1
       clear H1
       obtain rfl:=Option.some.inj H
       go_enter Try.func181,Try.ntmps181
       go_wp2_with (first | ((with_reducible refine gate_dst (N:=1) rfl ?_);refine box_event ?hg (N:=1) ?hd (cs:=#[.int .i64 a0_0,.int .i64 a0_1,.string a0_2]) (t:=116) ?hr ?_;(case hd=>rfl);(case hg=>rfl);(case hr=>first | (go_simp;done) | (go_simp;rfl));intro gb257 hg w33 hbox hb;have n0_:=aM_ (bT_ (by exact bZ_ HB) hb);have n1_:=aM_ (hbox);have n2_:=aM_ ((by rw [hg];exact (bS_ (by exact bZ_ HB)) : w.heap.size ≤ gb257));have n3_:=aM_ ((by rw [hg];exact (bS_ (by exact bZ_ HB)) : w.heap.size ≤ gb257));clear HB;have HB:=n0_;have BK257:=n1_;have GW257:=n2_;have GE257:=n3_;clear n0_ n1_ n2_ n3_;clear hb hbox hg;have hcz34_0 : w33.cell? ⟨gb257,0,none⟩ = some (.int .i64 a0_0):=(kC_ BK257.out 0).trans rfl;have hcz34_1 : w33.cell? ⟨gb257,1,none⟩ = some (.int .i64 a0_1):=(kC_ BK257.out 1).trans rfl;have hcz34_2 : w33.cell? ⟨gb257,2,none⟩ = some (.string a0_2):=(kC_ BK257.out 2).trans rfl;have hfz34_0:=kF_ BK257.out 0;have hfz34_1:=kF_ BK257.out 1;have hfz34_2:=kF_ BK257.out 2) | ((with_reducible refine gate_callee (f:=89) rfl ?_);refine goesL_ (some 50) rfl rfl Try.func89 (by kernel_rfl) rfl #[.int .i64 a0_1,.int .i64 0,.int .i64 1] rfl (by (try simp only [mA_,mC_,mN_]);first | done | rfl | (simp only [lD_,lT_];rfl)) ?_;(with_reducible refine (spec_l1In.calls a0_1 0 1 false _ A29.out).mono ?_);rintro e w' ⟨rfl,⟨nd,rfl⟩⟩;refine ⟨_,rfl,?_⟩))
       go_ret
       exact ⟨by first | rfl | (simp [errW_none,errW_some] <;> rfl) | (simp [*, errW_none,errW_some] <;> rfl),by exact bZ_ HB⟩
     ·rw [if_neg c28] at H
      have c28b0 : (a0_0 == 4) = false:=beq_eq_false_iff_ne.mpr c28
      have c28b1 : (a0_0 != 4) = true:=bne_iff_ne.mpr c28
      obtain rfl:=Option.some.inj H
      go_enter Try.func181,Try.ntmps181
      go_wp2_with (first | ((with_reducible refine gate_dst (N:=1) rfl ?_);refine box_event ?hg (N:=1) ?hd (cs:=#[.int .i64 a0_0,.int .i64 a0_1,.string a0_2]) (t:=116) ?hr ?_;(case hd=>rfl);(case hg=>rfl);(case hr=>first | (go_simp;done) | (go_simp;rfl));intro gb257 hg w35 hbox hb;have n0_:=aM_ (bT_ (by exact bZ_ HB) hb);have n1_:=aM_ (hbox);have n2_:=aM_ ((by rw [hg];exact (bS_ (by exact bZ_ HB)) : w.heap.size ≤ gb257));have n3_:=aM_ ((by rw [hg];exact (bS_ (by exact bZ_ HB)) : w.heap.size ≤ gb257));clear HB;have HB:=n0_;have BK257:=n1_;have GW257:=n2_;have GE257:=n3_;clear n0_ n1_ n2_ n3_;clear hb hbox hg;have hcz36_0 : w35.cell? ⟨gb257,0,none⟩ = some (.int .i64 a0_0):=(kC_ BK257.out 0).trans rfl;have hcz36_1 : w35.cell? ⟨gb257,1,none⟩ = some (.int .i64 a0_1):=(kC_ BK257.out 1).trans rfl;have hcz36_2 : w35.cell? ⟨gb257,2,none⟩ = some (.string a0_2):=(kC_ BK257.out 2).trans rfl;have hfz36_0:=kF_ BK257.out 0;have hfz36_1:=kF_ BK257.out 1;have hfz36_2:=kF_ BK257.out 2))
      go_ret
      exact ⟨by first | rfl | (simp [errW_none,errW_some] <;> rfl) | (simp [*, errW_none,errW_some] <;> rfl),by exact bZ_ HB⟩
def spec_Fits.f (a0_0 : Int) (a0_1 : Int) (a0_2 : Bool) (a0_3 : Bool) (a1_0 : Int) (a1_1 : Int) (a1_2 : ByteArray) : Option (Bool):=(spec_ValOk.f a1_0 a1_1 a1_2).bind fun t263=>(if t263 = true then (if a1_0 = a0_1 then (if a1_0 = 0 then (some a0_2) else (some true)) else (if a1_0 = 0 then (some a0_2) else (some false))) else (some false))
set_option maxHeartbeats 8000000 in
set_option maxRecDepth 100000 in
theorem spec_Fits.calls (a0_0 : Int) (a0_1 : Int) (a0_2 : Bool) (a0_3 : Bool) (a1_0 : Int) (a1_1 : Int) (a1_2 : ByteArray) (r : Bool) (w : World) (h : spec_Fits.f a0_0 a0_1 a0_2 a0_3 a1_0 a1_1 a1_2 = some r) :
  Calls Try.prog 160 #[.agg #[.int .i64 a0_0,.int .i64 a0_1,.bool a0_2,.bool a0_3],.agg #[.int .i64 a1_0,.int .i64 a1_1,.string a1_2]] w fun e w'=>e = .returned (.bool r) ∧ Below w.heap.size w w':=by
 have hu119:=Try.underlying119
 have hu116:=Try.underlying116
 have HB:=aM_ (Below.refl w.heap.size w)
 have H : ((spec_ValOk.f a1_0 a1_1 a1_2).bind fun t263=>(if t263 = true then (if a1_0 = a0_1 then (if a1_0 = 0 then (some a0_2) else (some true)) else (if a1_0 = 0 then (some a0_2) else (some false))) else (some false))) = some r:=h
 clear h
 replace H:=oB_ H
 obtain ⟨t263,A30,H⟩:=H
 replace H : (if t263 = true then (if a1_0 = a0_1 then (if a1_0 = 0 then (some a0_2) else (some true)) else (if a1_0 = 0 then (some a0_2) else (some false))) else (some false)) = some r:=H
 have A3:=aM_ A30
 clear A30
 by_cases c4 : t263 = true
 ·subst c4
  have H1 : (if a1_0 = a0_1 then (if a1_0 = 0 then (some a0_2) else (some true)) else (if a1_0 = 0 then (some a0_2) else (some false))) = some r:=by rw [if_pos rfl] at H;exact H
  clear H
  have H:=H1
  clear H1
  by_cases c5 : a1_0 = a0_1
  ·rw [if_pos c5] at H
   have c5b0 : (a1_0 == a0_1) = true:=beq_iff_eq.mpr c5
   have c5b1 : (a1_0 != a0_1) = false:=bne_eq_false_iff_eq.mpr c5
   clear c5
   by_cases c6 : a1_0 = 0
   ·rw [if_pos c6] at H
    have c6b0 : (a1_0 == 0) = true:=beq_iff_eq.mpr c6
    have c6b1 : (a1_0 != 0) = false:=bne_eq_false_iff_eq.mpr c6
    clear c6
    obtain rfl:=Option.some.inj H
    go_enter Try.func160,Try.ntmps160
    go_wp2_with (first | ((with_reducible refine gate_dst (N:=2) rfl ?_);refine box_event ?hg (N:=2) ?hd (cs:=#[.int .i64 a0_0,.int .i64 a0_1,.bool a0_2,.bool a0_3]) (t:=119) ?hr ?_;(case hd=>rfl);(case hg=>rfl);(case hr=>first | (go_simp;done) | (go_simp;rfl));intro gb261 hg w7 hbox hb;have n0_:=aM_ (bT_ (by exact bZ_ HB) hb);have n1_:=aM_ (hbox);have n2_:=aM_ ((by rw [hg];exact (bS_ (by exact bZ_ HB)) : w.heap.size ≤ gb261));have n3_:=aM_ ((by rw [hg];exact (bS_ (by exact bZ_ HB)) : w.heap.size ≤ gb261));clear HB;have HB:=n0_;have BK261:=n1_;have GW261:=n2_;have GE261:=n3_;clear n0_ n1_ n2_ n3_;clear hb hbox hg) | ((with_reducible refine gate_dst (N:=3) rfl ?_);refine box_event ?hg (N:=3) ?hd (cs:=#[.int .i64 a1_0,.int .i64 a1_1,.string a1_2]) (t:=116) ?hr ?_;(case hd=>rfl);(case hg=>rfl);(case hr=>first | (go_simp;done) | (go_simp;rfl));intro gb262 hg w8 hbox hb;have n0_:=aM_ (blk_below (g:=gb261) (o:=.cells #[.int .i64 a0_0,.int .i64 a0_1,.bool a0_2,.bool a0_3] 119 (0,0)) (by exact kZ_ BK261) hb);have n1_:=aM_ (bT_ (by exact bZ_ HB) hb);have n2_:=aM_ (hbox);have n3_:=aM_ ((by rw [hg];exact (bS_ (by exact bZ_ HB)) : w.heap.size ≤ gb262));have n4_:=aM_ ((by rw [hg];exact (bS_ (by exact bZ_ HB)) : w.heap.size ≤ gb262));have n5_:=aM_ ((by rw [hg];exact nN_ (blk_lt (g:=gb261) (o:=.cells #[.int .i64 a0_0,.int .i64 a0_1,.bool a0_2,.bool a0_3] 119 (0,0)) (by exact kZ_ BK261)) : gb261 ≠ gb262));have n6_:=aM_ ((by rw [hg];exact Nat.ne_of_gt (blk_lt (g:=gb261) (o:=.cells #[.int .i64 a0_0,.int .i64 a0_1,.bool a0_2,.bool a0_3] 119 (0,0)) (by exact kZ_ BK261)) : gb262 ≠ gb261));clear BK261;clear HB;have BK261:=n0_;have HB:=n1_;have BK262:=n2_;have GW262:=n3_;have GE262:=n4_;have NB261_262:=n5_;have NB262_261:=n6_;clear n0_ n1_ n2_ n3_ n4_ n5_ n6_;clear hb hbox hg;have hnb9:=NB262_261.out;have hnc9:=NB261_262.out;have hcz10_0 : w8.cell? ⟨gb262,0,none⟩ = some (.int .i64 a1_0):=(kC_ BK262.out 0).trans rfl;have hcz10_1 : w8.cell? ⟨gb262,1,none⟩ = some (.int .i64 a1_1):=(kC_ BK262.out 1).trans rfl;have hcz10_2 : w8.cell? ⟨gb262,2,none⟩ = some (.string a1_2):=(kC_ BK262.out 2).trans rfl;have hfz10_0:=kF_ BK262.out 0;have hfz10_1:=kF_ BK262.out 1;have hfz10_2:=kF_ BK262.out 2) | ((with_reducible refine gate_callee (f:=181) rfl ?_);refine goesL_ (some 6) rfl rfl Try.func181 (by kernel_rfl) rfl #[.agg #[.int .i64 a1_0,.int .i64 a1_1,.string a1_2]] rfl (by (try simp only [mA_,mC_,mN_]);first | done | rfl | (simp only [lD_,lT_];rfl)) ?_;(with_reducible refine (spec_ValOk.calls a1_0 a1_1 a1_2 true _ A3.out).mono ?_);rintro e w11 ⟨rfl,hb⟩;refine ⟨_,rfl,?_⟩;have n0_:=aM_ (blk_below (g:=gb261) (o:=.cells #[.int .i64 a0_0,.int .i64 a0_1,.bool a0_2,.bool a0_3] 119 (0,0)) (by exact kZ_ BK261) hb);have n1_:=aM_ (blk_below (g:=gb262) (o:=.cells #[.int .i64 a1_0,.int .i64 a1_1,.string a1_2] 116 (0,0)) (by exact kZ_ BK262) hb);have n2_:=aM_ (bT_ (by exact bZ_ HB) hb);clear BK261;clear BK262;clear HB;have BK261:=n0_;have BK262:=n1_;have HB:=n2_;clear n0_ n1_ n2_;(try clear hb);(try clear hb2);(try clear hk);(try clear hi);have hcz12_0 : w11.cell? ⟨gb262,0,none⟩ = some (.int .i64 a1_0):=(kC_ BK262.out 0).trans rfl;have hcz12_1 : w11.cell? ⟨gb262,1,none⟩ = some (.int .i64 a1_1):=(kC_ BK262.out 1).trans rfl;have hcz12_2 : w11.cell? ⟨gb262,2,none⟩ = some (.string a1_2):=(kC_ BK262.out 2).trans rfl;have hfz12_0:=kF_ BK262.out 0;have hfz12_1:=kF_ BK262.out 1;have hfz12_2:=kF_ BK262.out 2;have hcz13_0 : w11.cell? ⟨gb261,0,none⟩ = some (.int .i64 a0_0):=(kC_ BK261.out 0).trans rfl;have hcz13_1 : w11.cell? ⟨gb261,1,none⟩ = some (.int .i64 a0_1):=(kC_ BK261.out 1).trans rfl;have hcz13_2 : w11.cell? ⟨gb261,2,none⟩ = some (.bool a0_2):=(kC_ BK261.out 2).trans rfl;have hcz13_3 : w11.cell? ⟨gb261,3,none⟩ = some (.bool a0_3):=(kC_ BK261.out 3).trans rfl;have hfz13_0:=kF_ BK261.out 0;have hfz13_1:=kF_ BK261.out 1;have hfz13_2:=kF_ BK261.out 2;have hfz13_3:=kF_ BK261.out 3))
    go_ret
    exact ⟨by first | rfl | (simp [errW_none,errW_some] <;> rfl) | (simp [*, errW_none,errW_some] <;> rfl),by exact bZ_ HB⟩
   ·rw [if_neg c6] at H
    have c6b0 : (a1_0 == 0) = false:=beq_eq_false_iff_ne.mpr c6
    have c6b1 : (a1_0 != 0) = true:=bne_iff_ne.mpr c6
    obtain rfl:=Option.some.inj H
    go_enter Try.func160,Try.ntmps160
    go_wp2_with (first | ((with_reducible refine gate_dst (N:=2) rfl ?_);refine box_event ?hg (N:=2) ?hd (cs:=#[.int .i64 a0_0,.int .i64 a0_1,.bool a0_2,.bool a0_3]) (t:=119) ?hr ?_;(case hd=>rfl);(case hg=>rfl);(case hr=>first | (go_simp;done) | (go_simp;rfl));intro gb261 hg w14 hbox hb;have n0_:=aM_ (bT_ (by exact bZ_ HB) hb);have n1_:=aM_ (hbox);have n2_:=aM_ ((by rw [hg];exact (bS_ (by exact bZ_ HB)) : w.heap.size ≤ gb261));have n3_:=aM_ ((by rw [hg];exact (bS_ (by exact bZ_ HB)) : w.heap.size ≤ gb261));clear HB;have HB:=n0_;have BK261:=n1_;have GW261:=n2_;have GE261:=n3_;clear n0_ n1_ n2_ n3_;clear hb hbox hg) | ((with_reducible refine gate_dst (N:=3) rfl ?_);refine box_event ?hg (N:=3) ?hd (cs:=#[.int .i64 a1_0,.int .i64 a1_1,.string a1_2]) (t:=116) ?hr ?_;(case hd=>rfl);(case hg=>rfl);(case hr=>first | (go_simp;done) | (go_simp;rfl));intro gb262 hg w15 hbox hb;have n0_:=aM_ (blk_below (g:=gb261) (o:=.cells #[.int .i64 a0_0,.int .i64 a0_1,.bool a0_2,.bool a0_3] 119 (0,0)) (by exact kZ_ BK261) hb);have n1_:=aM_ (bT_ (by exact bZ_ HB) hb);have n2_:=aM_ (hbox);have n3_:=aM_ ((by rw [hg];exact (bS_ (by exact bZ_ HB)) : w.heap.size ≤ gb262));have n4_:=aM_ ((by rw [hg];exact (bS_ (by exact bZ_ HB)) : w.heap.size ≤ gb262));have n5_:=aM_ ((by rw [hg];exact nN_ (blk_lt (g:=gb261) (o:=.cells #[.int .i64 a0_0,.int .i64 a0_1,.bool a0_2,.bool a0_3] 119 (0,0)) (by exact kZ_ BK261)) : gb261 ≠ gb262));have n6_:=aM_ ((by rw [hg];exact Nat.ne_of_gt (blk_lt (g:=gb261) (o:=.cells #[.int .i64 a0_0,.int .i64 a0_1,.bool a0_2,.bool a0_3] 119 (0,0)) (by exact kZ_ BK261)) : gb262 ≠ gb261));clear BK261;clear HB;have BK261:=n0_;have HB:=n1_;have BK262:=n2_;have GW262:=n3_;have GE262:=n4_;have NB261_262:=n5_;have NB262_261:=n6_;clear n0_ n1_ n2_ n3_ n4_ n5_ n6_;clear hb hbox hg;have hnb16:=NB262_261.out;have hnc16:=NB261_262.out;have hcz17_0 : w15.cell? ⟨gb262,0,none⟩ = some (.int .i64 a1_0):=(kC_ BK262.out 0).trans rfl;have hcz17_1 : w15.cell? ⟨gb262,1,none⟩ = some (.int .i64 a1_1):=(kC_ BK262.out 1).trans rfl;have hcz17_2 : w15.cell? ⟨gb262,2,none⟩ = some (.string a1_2):=(kC_ BK262.out 2).trans rfl;have hfz17_0:=kF_ BK262.out 0;have hfz17_1:=kF_ BK262.out 1;have hfz17_2:=kF_ BK262.out 2) | ((with_reducible refine gate_callee (f:=181) rfl ?_);refine goesL_ (some 6) rfl rfl Try.func181 (by kernel_rfl) rfl #[.agg #[.int .i64 a1_0,.int .i64 a1_1,.string a1_2]] rfl (by (try simp only [mA_,mC_,mN_]);first | done | rfl | (simp only [lD_,lT_];rfl)) ?_;(with_reducible refine (spec_ValOk.calls a1_0 a1_1 a1_2 true _ A3.out).mono ?_);rintro e w18 ⟨rfl,hb⟩;refine ⟨_,rfl,?_⟩;have n0_:=aM_ (blk_below (g:=gb261) (o:=.cells #[.int .i64 a0_0,.int .i64 a0_1,.bool a0_2,.bool a0_3] 119 (0,0)) (by exact kZ_ BK261) hb);have n1_:=aM_ (blk_below (g:=gb262) (o:=.cells #[.int .i64 a1_0,.int .i64 a1_1,.string a1_2] 116 (0,0)) (by exact kZ_ BK262) hb);have n2_:=aM_ (bT_ (by exact bZ_ HB) hb);clear BK261;clear BK262;clear HB;have BK261:=n0_;have BK262:=n1_;have HB:=n2_;clear n0_ n1_ n2_;(try clear hb);(try clear hb2);(try clear hk);(try clear hi);have hcz19_0 : w18.cell? ⟨gb262,0,none⟩ = some (.int .i64 a1_0):=(kC_ BK262.out 0).trans rfl;have hcz19_1 : w18.cell? ⟨gb262,1,none⟩ = some (.int .i64 a1_1):=(kC_ BK262.out 1).trans rfl;have hcz19_2 : w18.cell? ⟨gb262,2,none⟩ = some (.string a1_2):=(kC_ BK262.out 2).trans rfl;have hfz19_0:=kF_ BK262.out 0;have hfz19_1:=kF_ BK262.out 1;have hfz19_2:=kF_ BK262.out 2;have hcz20_0 : w18.cell? ⟨gb261,0,none⟩ = some (.int .i64 a0_0):=(kC_ BK261.out 0).trans rfl;have hcz20_1 : w18.cell? ⟨gb261,1,none⟩ = some (.int .i64 a0_1):=(kC_ BK261.out 1).trans rfl;have hcz20_2 : w18.cell? ⟨gb261,2,none⟩ = some (.bool a0_2):=(kC_ BK261.out 2).trans rfl;have hcz20_3 : w18.cell? ⟨gb261,3,none⟩ = some (.bool a0_3):=(kC_ BK261.out 3).trans rfl;have hfz20_0:=kF_ BK261.out 0;have hfz20_1:=kF_ BK261.out 1;have hfz20_2:=kF_ BK261.out 2;have hfz20_3:=kF_ BK261.out 3))
    go_ret
    exact ⟨by first | rfl | (simp [errW_none,errW_some] <;> rfl) | (simp [*, errW_none,errW_some] <;> rfl),by exact bZ_ HB⟩
  ·rw [if_neg c5] at H
   have c5b0 : (a1_0 == a0_1) = false:=beq_eq_false_iff_ne.mpr c5
   have c5b1 : (a1_0 != a0_1) = true:=bne_iff_ne.mpr c5
   by_cases c21 : a1_0 = 0
   ·rw [if_pos c21] at H
    have c21b0 : (a1_0 == 0) = true:=beq_iff_eq.mpr c21
    have c21b1 : (a1_0 != 0) = false:=bne_eq_false_iff_eq.mpr c21
    clear c21
    obtain rfl:=Option.some.inj H
    go_enter Try.func160,Try.ntmps160
    go_wp2_with (first | ((with_reducible refine gate_dst (N:=2) rfl ?_);refine box_event ?hg (N:=2) ?hd (cs:=#[.int .i64 a0_0,.int .i64 a0_1,.bool a0_2,.bool a0_3]) (t:=119) ?hr ?_;(case hd=>rfl);(case hg=>rfl);(case hr=>first | (go_simp;done) | (go_simp;rfl));intro gb261 hg w22 hbox hb;have n0_:=aM_ (bT_ (by exact bZ_ HB) hb);have n1_:=aM_ (hbox);have n2_:=aM_ ((by rw [hg];exact (bS_ (by exact bZ_ HB)) : w.heap.size ≤ gb261));have n3_:=aM_ ((by rw [hg];exact (bS_ (by exact bZ_ HB)) : w.heap.size ≤ gb261));clear HB;have HB:=n0_;have BK261:=n1_;have GW261:=n2_;have GE261:=n3_;clear n0_ n1_ n2_ n3_;clear hb hbox hg) | ((with_reducible refine gate_dst (N:=3) rfl ?_);refine box_event ?hg (N:=3) ?hd (cs:=#[.int .i64 a1_0,.int .i64 a1_1,.string a1_2]) (t:=116) ?hr ?_;(case hd=>rfl);(case hg=>rfl);(case hr=>first | (go_simp;done) | (go_simp;rfl));intro gb262 hg w23 hbox hb;have n0_:=aM_ (blk_below (g:=gb261) (o:=.cells #[.int .i64 a0_0,.int .i64 a0_1,.bool a0_2,.bool a0_3] 119 (0,0)) (by exact kZ_ BK261) hb);have n1_:=aM_ (bT_ (by exact bZ_ HB) hb);have n2_:=aM_ (hbox);have n3_:=aM_ ((by rw [hg];exact (bS_ (by exact bZ_ HB)) : w.heap.size ≤ gb262));have n4_:=aM_ ((by rw [hg];exact (bS_ (by exact bZ_ HB)) : w.heap.size ≤ gb262));have n5_:=aM_ ((by rw [hg];exact nN_ (blk_lt (g:=gb261) (o:=.cells #[.int .i64 a0_0,.int .i64 a0_1,.bool a0_2,.bool a0_3] 119 (0,0)) (by exact kZ_ BK261)) : gb261 ≠ gb262));have n6_:=aM_ ((by rw [hg];exact Nat.ne_of_gt (blk_lt (g:=gb261) (o:=.cells #[.int .i64 a0_0,.int .i64 a0_1,.bool a0_2,.bool a0_3] 119 (0,0)) (by exact kZ_ BK261)) : gb262 ≠ gb261));clear BK261;clear HB;have BK261:=n0_;have HB:=n1_;have BK262:=n2_;have GW262:=n3_;have GE262:=n4_;have NB261_262:=n5_;have NB262_261:=n6_;clear n0_ n1_ n2_ n3_ n4_ n5_ n6_;clear hb hbox hg;have hnb24:=NB262_261.out;have hnc24:=NB261_262.out;have hcz25_0 : w23.cell? ⟨gb262,0,none⟩ = some (.int .i64 a1_0):=(kC_ BK262.out 0).trans rfl;have hcz25_1 : w23.cell? ⟨gb262,1,none⟩ = some (.int .i64 a1_1):=(kC_ BK262.out 1).trans rfl;have hcz25_2 : w23.cell? ⟨gb262,2,none⟩ = some (.string a1_2):=(kC_ BK262.out 2).trans rfl;have hfz25_0:=kF_ BK262.out 0;have hfz25_1:=kF_ BK262.out 1;have hfz25_2:=kF_ BK262.out 2) | ((with_reducible refine gate_callee (f:=181) rfl ?_);refine goesL_ (some 6) rfl rfl Try.func181 (by kernel_rfl) rfl #[.agg #[.int .i64 a1_0,.int .i64 a1_1,.string a1_2]] rfl (by (try simp only [mA_,mC_,mN_]);first | done | rfl | (simp only [lD_,lT_];rfl)) ?_;(with_reducible refine (spec_ValOk.calls a1_0 a1_1 a1_2 true _ A3.out).mono ?_);rintro e w26 ⟨rfl,hb⟩;refine ⟨_,rfl,?_⟩;have n0_:=aM_ (blk_below (g:=gb261) (o:=.cells #[.int .i64 a0_0,.int .i64 a0_1,.bool a0_2,.bool a0_3] 119 (0,0)) (by exact kZ_ BK261) hb);have n1_:=aM_ (blk_below (g:=gb262) (o:=.cells #[.int .i64 a1_0,.int .i64 a1_1,.string a1_2] 116 (0,0)) (by exact kZ_ BK262) hb);have n2_:=aM_ (bT_ (by exact bZ_ HB) hb);clear BK261;clear BK262;clear HB;have BK261:=n0_;have BK262:=n1_;have HB:=n2_;clear n0_ n1_ n2_;(try clear hb);(try clear hb2);(try clear hk);(try clear hi);have hcz27_0 : w26.cell? ⟨gb262,0,none⟩ = some (.int .i64 a1_0):=(kC_ BK262.out 0).trans rfl;have hcz27_1 : w26.cell? ⟨gb262,1,none⟩ = some (.int .i64 a1_1):=(kC_ BK262.out 1).trans rfl;have hcz27_2 : w26.cell? ⟨gb262,2,none⟩ = some (.string a1_2):=(kC_ BK262.out 2).trans rfl;have hfz27_0:=kF_ BK262.out 0;have hfz27_1:=kF_ BK262.out 1;have hfz27_2:=kF_ BK262.out 2;have hcz28_0 : w26.cell? ⟨gb261,0,none⟩ = some (.int .i64 a0_0):=(kC_ BK261.out 0).trans rfl;have hcz28_1 : w26.cell? ⟨gb261,1,none⟩ = some (.int .i64 a0_1):=(kC_ BK261.out 1).trans rfl;have hcz28_2 : w26.cell? ⟨gb261,2,none⟩ = some (.bool a0_2):=(kC_ BK261.out 2).trans rfl;have hcz28_3 : w26.cell? ⟨gb261,3,none⟩ = some (.bool a0_3):=(kC_ BK261.out 3).trans rfl;have hfz28_0:=kF_ BK261.out 0;have hfz28_1:=kF_ BK261.out 1;have hfz28_2:=kF_ BK261.out 2;have hfz28_3:=kF_ BK261.out 3))
    go_ret
    exact ⟨by first | rfl | (simp [errW_none,errW_some] <;> rfl) | (simp [*, errW_none,errW_some] <;> rfl),by exact bZ_ HB⟩
   ·rw [if_neg c21] at H
    have c21b0 : (a1_0 == 0) = false:=beq_eq_false_iff_ne.mpr c21
    have c21b1 : (a1_0 != 0) = true:=bne_iff_ne.mpr c21
    obtain rfl:=Option.some.inj H
    go_enter Try.func160,Try.ntmps160
    go_wp2_with (first | ((with_reducible refine gate_dst (N:=2) rfl ?_);refine box_event ?hg (N:=2) ?hd (cs:=#[.int .i64 a0_0,.int .i64 a0_1,.bool a0_2,.bool a0_3]) (t:=119) ?hr ?_;(case hd=>rfl);(case hg=>rfl);(case hr=>first | (go_simp;done) | (go_simp;rfl));intro gb261 hg w29 hbox hb;have n0_:=aM_ (bT_ (by exact bZ_ HB) hb);have n1_:=aM_ (hbox);have n2_:=aM_ ((by rw [hg];exact (bS_ (by exact bZ_ HB)) : w.heap.size ≤ gb261));have n3_:=aM_ ((by rw [hg];exact (bS_ (by exact bZ_ HB)) : w.heap.size ≤ gb261));clear HB;have HB:=n0_;have BK261:=n1_;have GW261:=n2_;have GE261:=n3_;clear n0_ n1_ n2_ n3_;clear hb hbox hg) | ((with_reducible refine gate_dst (N:=3) rfl ?_);refine box_event ?hg (N:=3) ?hd (cs:=#[.int .i64 a1_0,.int .i64 a1_1,.string a1_2]) (t:=116) ?hr ?_;(case hd=>rfl);(case hg=>rfl);(case hr=>first | (go_simp;done) | (go_simp;rfl));intro gb262 hg w30 hbox hb;have n0_:=aM_ (blk_below (g:=gb261) (o:=.cells #[.int .i64 a0_0,.int .i64 a0_1,.bool a0_2,.bool a0_3] 119 (0,0)) (by exact kZ_ BK261) hb);have n1_:=aM_ (bT_ (by exact bZ_ HB) hb);have n2_:=aM_ (hbox);have n3_:=aM_ ((by rw [hg];exact (bS_ (by exact bZ_ HB)) : w.heap.size ≤ gb262));have n4_:=aM_ ((by rw [hg];exact (bS_ (by exact bZ_ HB)) : w.heap.size ≤ gb262));have n5_:=aM_ ((by rw [hg];exact nN_ (blk_lt (g:=gb261) (o:=.cells #[.int .i64 a0_0,.int .i64 a0_1,.bool a0_2,.bool a0_3] 119 (0,0)) (by exact kZ_ BK261)) : gb261 ≠ gb262));have n6_:=aM_ ((by rw [hg];exact Nat.ne_of_gt (blk_lt (g:=gb261) (o:=.cells #[.int .i64 a0_0,.int .i64 a0_1,.bool a0_2,.bool a0_3] 119 (0,0)) (by exact kZ_ BK261)) : gb262 ≠ gb261));clear BK261;clear HB;have BK261:=n0_;have HB:=n1_;have BK262:=n2_;have GW262:=n3_;have GE262:=n4_;have NB261_262:=n5_;have NB262_261:=n6_;clear n0_ n1_ n2_ n3_ n4_ n5_ n6_;clear hb hbox hg;have hnb31:=NB262_261.out;have hnc31:=NB261_262.out;have hcz32_0 : w30.cell? ⟨gb262,0,none⟩ = some (.int .i64 a1_0):=(kC_ BK262.out 0).trans rfl;have hcz32_1 : w30.cell? ⟨gb262,1,none⟩ = some (.int .i64 a1_1):=(kC_ BK262.out 1).trans rfl;have hcz32_2 : w30.cell? ⟨gb262,2,none⟩ = some (.string a1_2):=(kC_ BK262.out 2).trans rfl;have hfz32_0:=kF_ BK262.out 0;have hfz32_1:=kF_ BK262.out 1;have hfz32_2:=kF_ BK262.out 2) | ((with_reducible refine gate_callee (f:=181) rfl ?_);refine goesL_ (some 6) rfl rfl Try.func181 (by kernel_rfl) rfl #[.agg #[.int .i64 a1_0,.int .i64 a1_1,.string a1_2]] rfl (by (try simp only [mA_,mC_,mN_]);first | done | rfl | (simp only [lD_,lT_];rfl)) ?_;(with_reducible refine (spec_ValOk.calls a1_0 a1_1 a1_2 true _ A3.out).mono ?_);rintro e w33 ⟨rfl,hb⟩;refine ⟨_,rfl,?_⟩;have n0_:=aM_ (blk_below (g:=gb261) (o:=.cells #[.int .i64 a0_0,.int .i64 a0_1,.bool a0_2,.bool a0_3] 119 (0,0)) (by exact kZ_ BK261) hb);have n1_:=aM_ (blk_below (g:=gb262) (o:=.cells #[.int .i64 a1_0,.int .i64 a1_1,.string a1_2] 116 (0,0)) (by exact kZ_ BK262) hb);have n2_:=aM_ (bT_ (by exact bZ_ HB) hb);clear BK261;clear BK262;clear HB;have BK261:=n0_;have BK262:=n1_;have HB:=n2_;clear n0_ n1_ n2_;(try clear hb);(try clear hb2);(try clear hk);(try clear hi);have hcz34_0 : w33.cell? ⟨gb262,0,none⟩ = some (.int .i64 a1_0):=(kC_ BK262.out 0).trans rfl;have hcz34_1 : w33.cell? ⟨gb262,1,none⟩ = some (.int .i64 a1_1):=(kC_ BK262.out 1).trans rfl;have hcz34_2 : w33.cell? ⟨gb262,2,none⟩ = some (.string a1_2):=(kC_ BK262.out 2).trans rfl;have hfz34_0:=kF_ BK262.out 0;have hfz34_1:=kF_ BK262.out 1;have hfz34_2:=kF_ BK262.out 2;have hcz35_0 : w33.cell? ⟨gb261,0,none⟩ = some (.int .i64 a0_0):=(kC_ BK261.out 0).trans rfl;have hcz35_1 : w33.cell? ⟨gb261,1,none⟩ = some (.int .i64 a0_1):=(kC_ BK261.out 1).trans rfl;have hcz35_2 : w33.cell? ⟨gb261,2,none⟩ = some (.bool a0_2):=(kC_ BK261.out 2).trans rfl;have hcz35_3 : w33.cell? ⟨gb261,3,none⟩ = some (.bool a0_3):=(kC_ BK261.out 3).trans rfl;have hfz35_0:=kF_ BK261.out 0;have hfz35_1:=kF_ BK261.out 1;have hfz35_2:=kF_ BK261.out 2;have hfz35_3:=kF_ BK261.out 3))
    go_ret
    exact ⟨by first | rfl | (simp [errW_none,errW_some] <;> rfl) | (simp [*, errW_none,errW_some] <;> rfl),by exact bZ_ HB⟩
 ·replace c4:=Bool.eq_false_iff.mpr c4
  subst c4
  have H1 : (some false) = some r:=by rw [if_neg (show ¬ (false = true) by decide)] at H;exact H
  clear H
  have H:=H1
  clear H1
  obtain rfl:=Option.some.inj H
  go_enter Try.func160,Try.ntmps160
  go_wp2_with (first | ((with_reducible refine gate_dst (N:=2) rfl ?_);refine box_event ?hg (N:=2) ?hd (cs:=#[.int .i64 a0_0,.int .i64 a0_1,.bool a0_2,.bool a0_3]) (t:=119) ?hr ?_;(case hd=>rfl);(case hg=>rfl);(case hr=>first | (go_simp;done) | (go_simp;rfl));intro gb261 hg w36 hbox hb;have n0_:=aM_ (bT_ (by exact bZ_ HB) hb);have n1_:=aM_ (hbox);have n2_:=aM_ ((by rw [hg];exact (bS_ (by exact bZ_ HB)) : w.heap.size ≤ gb261));have n3_:=aM_ ((by rw [hg];exact (bS_ (by exact bZ_ HB)) : w.heap.size ≤ gb261));clear HB;have HB:=n0_;have BK261:=n1_;have GW261:=n2_;have GE261:=n3_;clear n0_ n1_ n2_ n3_;clear hb hbox hg) | ((with_reducible refine gate_dst (N:=3) rfl ?_);refine box_event ?hg (N:=3) ?hd (cs:=#[.int .i64 a1_0,.int .i64 a1_1,.string a1_2]) (t:=116) ?hr ?_;(case hd=>rfl);(case hg=>rfl);(case hr=>first | (go_simp;done) | (go_simp;rfl));intro gb262 hg w37 hbox hb;have n0_:=aM_ (blk_below (g:=gb261) (o:=.cells #[.int .i64 a0_0,.int .i64 a0_1,.bool a0_2,.bool a0_3] 119 (0,0)) (by exact kZ_ BK261) hb);have n1_:=aM_ (bT_ (by exact bZ_ HB) hb);have n2_:=aM_ (hbox);have n3_:=aM_ ((by rw [hg];exact (bS_ (by exact bZ_ HB)) : w.heap.size ≤ gb262));have n4_:=aM_ ((by rw [hg];exact (bS_ (by exact bZ_ HB)) : w.heap.size ≤ gb262));have n5_:=aM_ ((by rw [hg];exact nN_ (blk_lt (g:=gb261) (o:=.cells #[.int .i64 a0_0,.int .i64 a0_1,.bool a0_2,.bool a0_3] 119 (0,0)) (by exact kZ_ BK261)) : gb261 ≠ gb262));have n6_:=aM_ ((by rw [hg];exact Nat.ne_of_gt (blk_lt (g:=gb261) (o:=.cells #[.int .i64 a0_0,.int .i64 a0_1,.bool a0_2,.bool a0_3] 119 (0,0)) (by exact kZ_ BK261)) : gb262 ≠ gb261));clear BK261;clear HB;have BK261:=n0_;have HB:=n1_;have BK262:=n2_;have GW262:=n3_;have GE262:=n4_;have NB261_262:=n5_;have NB262_261:=n6_;clear n0_ n1_ n2_ n3_ n4_ n5_ n6_;clear hb hbox hg;have hnb38:=NB262_261.out;have hnc38:=NB261_262.out;have hcz39_0 : w37.cell? ⟨gb262,0,none⟩ = some (.int .i64 a1_0):=(kC_ BK262.out 0).trans rfl;have hcz39_1 : w37.cell? ⟨gb262,1,none⟩ = some (.int .i64 a1_1):=(kC_ BK262.out 1).trans rfl;have hcz39_2 : w37.cell? ⟨gb262,2,none⟩ = some (.string a1_2):=(kC_ BK262.out 2).trans rfl;have hfz39_0:=kF_ BK262.out 0;have hfz39_1:=kF_ BK262.out 1;have hfz39_2:=kF_ BK262.out 2) | ((with_reducible refine gate_callee (f:=181) rfl ?_);refine goesL_ (some 6) rfl rfl Try.func181 (by kernel_rfl) rfl #[.agg #[.int .i64 a1_0,.int .i64 a1_1,.string a1_2]] rfl (by (try simp only [mA_,mC_,mN_]);first | done | rfl | (simp only [lD_,lT_];rfl)) ?_;(with_reducible refine (spec_ValOk.calls a1_0 a1_1 a1_2 false _ A3.out).mono ?_);rintro e w40 ⟨rfl,hb⟩;refine ⟨_,rfl,?_⟩;have n0_:=aM_ (blk_below (g:=gb261) (o:=.cells #[.int .i64 a0_0,.int .i64 a0_1,.bool a0_2,.bool a0_3] 119 (0,0)) (by exact kZ_ BK261) hb);have n1_:=aM_ (blk_below (g:=gb262) (o:=.cells #[.int .i64 a1_0,.int .i64 a1_1,.string a1_2] 116 (0,0)) (by exact kZ_ BK262) hb);have n2_:=aM_ (bT_ (by exact bZ_ HB) hb);clear BK261;clear BK262;clear HB;have BK261:=n0_;have BK262:=n1_;have HB:=n2_;clear n0_ n1_ n2_;(try clear hb);(try clear hb2);(try clear hk);(try clear hi)))
  go_ret
  exact ⟨by first | rfl | (simp [errW_none,errW_some] <;> rfl) | (simp [*, errW_none,errW_some] <;> rfl),by exact bZ_ HB⟩
end Go.Proofs.Ytllgmgpfdnofmaa.PFnRowsRead
