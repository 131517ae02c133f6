import Derived.Test.YtllgmgpfdnofmaaZNDPFnNodesx0
namespace Go.Proofs.Ytllgmgpfdnofmaa.PFnNodes
open Go.RowKit Go.Proofs.YtllgmgpfdnofmaaW.PrintWords Go.Proofs.YtllgmgpfdnofmaaW.PrintLast Go.Proofs.YtllgmgpfdnofmaaW.PrintMore Go.Proofs.Ytllgmgpfdnofmaa.Xtra
attribute [local go_sem] max2_int min2_int max_two min_two max_three min_three max_four min_four str_leq str_gtr str_geq setCell_drewN cell_set2 cell_set3   -- for this text's walks alone
set_option linter.unusedVariables false
set_option linter.unusedSimpArgs false
mutual
def spec_PutU.j0 : Nat → Int → List Int → Option (List Int)
 | 0,_,_=>none
 | k + 1,x1,x5=>if x1 < 0 then (spec_PutU.j1 k 0 x5) else (spec_PutU.j1 k x1 x5)
def spec_PutU.j1 : Nat → Int → List Int → Option (List Int)
 | 0,_,_=>none
 | k + 1,x1,x5=>spec_PutU.l0 k x1 x5
def spec_PutU.l0 : Nat → Int → List Int → Option (List Int)
 | 0,_,_=>none
 | k + 1,x1,x5=>if x1 > 127 then (if x5.length < 140737488355328 then (spec_PutU.l0 k (x1 / 128) (x5 ++ [(Go.bits .or .i64 (Go.bits .and .i64 x1 127) 128) % 256])) else (none)) else (if x5.length < 140737488355328 then (some (x5 ++ [(x1) % 256])) else (none))
end
def spec_PutU.f (k : Nat) (l0 : List Int) (a1 : Int) : Option (List Int):=(some (([] : List Int) : List Int)).bind fun y154=>(if y154.length + l0.length < 140737488355328 then ((some (y154 ++ l0 : List Int)).bind fun y157=>(if a1 > 1000000 then (spec_PutU.j0 k 1000000 y157) else (spec_PutU.j0 k a1 y157))) else (none))
theorem spec_PutU.mono_l : ∀ k,(∀ y0 y1,LeO (spec_PutU.j0 k y0 y1) (spec_PutU.j0 (k + 1) y0 y1)) ∧ (∀ y0 y1,LeO (spec_PutU.j1 k y0 y1) (spec_PutU.j1 (k + 1) y0 y1)) ∧ (∀ y0 y1,LeO (spec_PutU.l0 k y0 y1) (spec_PutU.l0 (k + 1) y0 y1))
 | 0=>⟨fun _ _ r h=>by simp [spec_PutU.j0] at h,fun _ _ r h=>by simp [spec_PutU.j1] at h,fun _ _ r h=>by simp [spec_PutU.l0] at h⟩
 | k + 1=>by
  obtain ⟨ih0,ih1,ih2⟩:=spec_PutU.mono_l k
  refine ⟨?_,?_,?_⟩
  ·intro y0 y1
   unfold spec_PutU.j0
   repeat' first
   | (with_reducible exact ih0 _ _)
   | (with_reducible exact ih1 _ _)
   | (with_reducible exact ih2 _ _)
   | (with_reducible exact LeO.refl _)
   | (with_reducible exact LeO.none _)
   | (with_reducible refine LeO.ite ?_ ?_)
   | (with_reducible refine LeO.bind ?_ (fun _=>?_))
   | exact ih0 _ _
   | exact ih1 _ _
   | exact ih2 _ _
   | exact LeO.none _
   | refine LeO.ite ?_ ?_
   | refine LeO.bind ?_ (fun _=>?_)
  ·intro y0 y1
   unfold spec_PutU.j1
   repeat' first
   | (with_reducible exact ih0 _ _)
   | (with_reducible exact ih1 _ _)
   | (with_reducible exact ih2 _ _)
   | (with_reducible exact LeO.refl _)
   | (with_reducible exact LeO.none _)
   | (with_reducible refine LeO.ite ?_ ?_)
   | (with_reducible refine LeO.bind ?_ (fun _=>?_))
   | exact ih0 _ _
   | exact ih1 _ _
   | exact ih2 _ _
   | exact LeO.none _
   | refine LeO.ite ?_ ?_
   | refine LeO.bind ?_ (fun _=>?_)
  ·intro y0 y1
   unfold spec_PutU.l0
   repeat' first
   | (with_reducible exact ih0 _ _)
   | (with_reducible exact ih1 _ _)
   | (with_reducible exact ih2 _ _)
   | (with_reducible exact LeO.refl _)
   | (with_reducible exact LeO.none _)
   | (with_reducible refine LeO.ite ?_ ?_)
   | (with_reducible refine LeO.bind ?_ (fun _=>?_))
   | exact ih0 _ _
   | exact ih1 _ _
   | exact ih2 _ _
   | exact LeO.none _
   | refine LeO.ite ?_ ?_
   | refine LeO.bind ?_ (fun _=>?_)
theorem spec_PutU.mono : ∀ a0 a1 k,LeO (spec_PutU.f k a0 a1) (spec_PutU.f (k + 1) a0 a1):=by
 intro a0 a1 k
 obtain ⟨ih0,ih1,ih2⟩:=spec_PutU.mono_l k
 unfold spec_PutU.f
 repeat' first
   | (with_reducible exact ih0 _ _)
   | (with_reducible exact ih1 _ _)
   | (with_reducible exact ih2 _ _)
   | (with_reducible exact LeO.refl _)
   | (with_reducible exact LeO.none _)
   | (with_reducible refine LeO.ite ?_ ?_)
   | (with_reducible refine LeO.bind ?_ (fun _=>?_))
   | exact ih0 _ _
   | exact ih1 _ _
   | exact ih2 _ _
   | exact LeO.none _
   | refine LeO.ite ?_ ?_
   | refine LeO.bind ?_ (fun _=>?_)
set_option maxHeartbeats 8000000 in
set_option maxRecDepth 100000 in
theorem spec_PutU.calls (k : Nat) (A0 : Option Addr) (c0 : Nat) (l0 : List Int) (a1 : Int) (r : List Int) (w : World) (hr0 : Kd.C (Kd.int .u8) w A0 l0.length l0) (hc0 : l0.length ≤ c0) (h : spec_PutU.f k l0 a1 = some r) :
  Calls Try.prog 93 #[.slice A0 l0.length c0,.int .i64 a1] w fun e w'=>∃ v0_ : Value,e = .returned (v0_) ∧ Kd.R (Kd.int .u8) 5 w' w.heap.size (fun _=>True) v0_ r ∧ Below w.heap.size w w':=by
 have HR0:=aM_ hr0
 have HC0:=aM_ hc0
 clear hr0 hc0
 have HB:=aM_ (Below.refl w.heap.size w)
 have H : ((some (([] : List Int) : List Int)).bind fun y154=>(if y154.length + l0.length < 140737488355328 then ((some (y154 ++ l0 : List Int)).bind fun y157=>(if a1 > 1000000 then (spec_PutU.j0 k 1000000 y157) else (spec_PutU.j0 k a1 y157))) else (none))) = some r:=h
 clear h
 obtain ⟨y154,hy154⟩ : ∃ y_ : List Int,y_ = (([] : List Int)):=⟨_,rfl⟩
 replace H : (if y154.length + l0.length < 140737488355328 then ((some (y154 ++ l0 : List Int)).bind fun y157=>(if a1 > 1000000 then (spec_PutU.j0 k 1000000 y157) else (spec_PutU.j0 k a1 y157))) else (none)) = some r:=by first | (rw [hy154];with_reducible exact H) | (have H2_:=(Option.bind_some _ _).symm.trans H;rw [hy154];with_reducible exact H2_) | (have H2_:=(Option.bind_some _ _).symm.trans H;with_reducible exact H2_) | with_reducible exact H | (rw [hy154];exact H) | exact H
 have Ny154:=aM_ hy154
 clear hy154
 by_cases c3 : y154.length + l0.length < 140737488355328
 ·rw [if_pos c3] at H
  have LMc3:=aM_ c3
  clear c3
  obtain ⟨y157,hy157⟩ : ∃ y_ : List Int,y_ = (y154 ++ l0):=⟨_,rfl⟩
  replace H : (if a1 > 1000000 then (spec_PutU.j0 k 1000000 y157) else (spec_PutU.j0 k a1 y157)) = some r:=by first | (rw [hy157];with_reducible exact H) | (have H2_:=(Option.bind_some _ _).symm.trans H;rw [hy157];with_reducible exact H2_) | (have H2_:=(Option.bind_some _ _).symm.trans H;with_reducible exact H2_) | with_reducible exact H | (rw [hy157];exact H) | exact H
  have Ny157:=aM_ hy157
  clear hy157
  have HC4:=aM_ H
  clear H
  go_enter Try.func93,Try.ntmps93
  go_upto_if 10 with (first | ((with_reducible refine gate_dst (N:=6) rfl ?_);refine Kd.R_lit (Kd.int .u8) _ 5 ?hg (N:=6) ?hd (xs:=([] : List Int)) (inner:=[]) (ok:=fun _=>True) (okp:=fun _=>True) ?hr ?hp (fun _ hk=>hk) trivial (Below.refl _ _) (Nat.le_refl _) (by simp) ?_;(case hd=>rfl);(case hg=>rfl);(case hr=>first | (go_simp;done) | (go_simp;rfl));(case hp=>exact (Reps.none _ _));intro v155 w5 ho6 hb hg_ hnew_;clear hg_ hnew_;(first | rw [← Ny154.out] at ho6 | (simp only [Int.reduceToNat] at ho6;rw [← Ny154.out] at ho6));have n0_:=aM_ (Kd.R_lower ho6 (bS_ (by exact bZ_ HB)));have n1_:=aM_ (bT_ (by exact bZ_ HB) hb);clear HB;have HO156:=n0_;have HB:=n1_;clear n0_ n1_ hb ho6) | ((with_reducible refine gate_builtin (b:=.append) (xs:=#[.tmp 6,.tmp 7]) rfl ?_);at_builtin;refine Kd.R_append_rows (Kd.int .u8) (w0:=w) w.heap.size rfl (.tmp 6) (.tmp 7) 27 5 (.int .u8 0) 1 rfl Try.underlying27 info5 rfl (by decide) (by omega) v155 y154 l0 _ _ _ (fun _=>True) (fun _=>False) rfl rfl ?aO ?aR (fun _ _ h=>h) (fun _ h=>h.elim) ?aF ?aB ?aS ?aL ?_;(case aR=>repeat (first | exact (Kd.C_below HR0.out HB.out) | (with_reducible refine cA_ ?_ _) | (with_reducible refine cN_ ?_ _) | (with_reducible refine cD_ ?_)));(case aB=>exact (by exact bZ_ HB));(case aF=>exact (fun _ _=>trivial));(case aO=>exact (by exact rZ_ HO156));(case aS=>exact (bS_ (by exact bZ_ HB)));(case aL=>have:=LMc3.out;omega);intro v158 w7 ho hb hg hat;rw [← Ny157.out] at ho;have n0_:=aM_ (hb);have n1_:=aM_ (ho);clear HB HO156;have HB:=n0_;have HO159:=n1_;clear n0_ n1_ ho hb hg hat))
  (try simp only [Act.put,sI_,sZ_,sS_])
  go_cut [1] (fun v1 wc=>∃ (kq : Nat) (x1_3 : Int),v1 = .int .i64 x1_3 ∧ Aside0 (spec_PutU.j0 kq x1_3 y157 = some r) ∧ Aside0 (kq ≤ k) ∧ Aside0 (Kd.R (Kd.int .u8) 5 wc w.heap.size (fun _=>True) v158 y157) ∧ Aside0 (Below w.heap.size w wc))
  case first =>
   have H:=HC4.out
   clear HC4
   by_cases c8 : a1 > 1000000
   ·rw [if_pos c8] at H
    have c8b0 : decide (1000000 < a1) = true:=decide_eq_true c8
    clear c8
    (first | rw [c8b0] | (simp only [i64_w,i32_w];rw [c8b0]) | skip)
    have H':=aM_ H
    clear H
    go_wp2
    (first | go_meet | (refine Met.intro ?_;go_step;(repeat apply Exists.intro);refine ⟨?rel,?eq⟩;(case eq=>(try simp only [c8b0]);rfl)))
    case rel=>exact ⟨_,(1000000),(by first | rfl | (simp;done) | (simp [*];done)),H', ⟨by first | omega | exact Nat.le_refl _⟩,⟨by exact rZ_ HO159⟩,⟨by exact bZ_ HB⟩⟩
   ·rw [if_neg c8] at H
    have c8b0 : decide (1000000 < a1) = false:=decide_eq_false c8
    clear c8
    (first | rw [c8b0] | (simp only [i64_w,i32_w];rw [c8b0]) | skip)
    have H':=aM_ H
    clear H
    go_wp2
    (first | go_meet | (refine Met.intro ?_;go_step;(repeat apply Exists.intro);refine ⟨?rel,?eq⟩;(case eq=>(try simp only [c8b0]);(try simp only [c8b0]);rfl)))
    case rel=>exact ⟨_,(a1),(by first | rfl | (simp;done) | (simp [*];done)),H', ⟨by first | omega | exact Nat.le_refl _⟩,⟨by exact rZ_ HO159⟩,⟨by exact bZ_ HB⟩⟩
  case rest =>
   clear HC4
   obtain ⟨kq,x1_3,rfl,HA,HJ3,HO_5,HB⟩:=hcut
   cases kq with
   | zero=>exact absurd HA.out (by simp [spec_PutU.j0])
   | succ kj3 =>
    have H:=HA.out
    clear HA
    simp only [spec_PutU.j0] at H
    have HC9:=aM_ H
    clear H
    go_upto_if 12 with (fail)
    go_cut [1] (fun v1 wc=>∃ (kq : Nat) (x1_8 : Int),v1 = .int .i64 x1_8 ∧ Aside0 (spec_PutU.j1 kq x1_8 y157 = some r) ∧ Aside0 (kq ≤ kj3) ∧ Aside0 (Kd.R (Kd.int .u8) 5 wc w.heap.size (fun _=>True) v158 y157) ∧ Aside0 (Below w.heap.size w wc))
    case first =>
     have H:=HC9.out
     clear HC9
     by_cases c10 : x1_3 < 0
     ·rw [if_pos c10] at H
      have c10b0 : decide (x1_3 < 0) = true:=decide_eq_true c10
      clear c10
      (first | rw [c10b0] | (simp only [i64_w,i32_w];rw [c10b0]) | skip)
      have H':=aM_ H
      clear H
      go_wp2
      (first | go_meet | (refine Met.intro ?_;go_step;(repeat apply Exists.intro);refine ⟨?rel,?eq⟩;(case eq=>(try simp only [c8b0]);(try simp only [c8b0]);(try simp only [c10b0]);rfl)))
      case rel=>exact ⟨_,(0),(by first | rfl | (simp;done) | (simp [*];done)),H', ⟨by have:=HJ3.out;first | omega | exact Nat.le_refl _⟩,⟨by exact rZ_ HO_5⟩,⟨by exact bZ_ HB⟩⟩
     ·rw [if_neg c10] at H
      have c10b0 : decide (x1_3 < 0) = false:=decide_eq_false c10
      clear c10
      (first | rw [c10b0] | (simp only [i64_w,i32_w];rw [c10b0]) | skip)
      have H':=aM_ H
      clear H
      go_wp2
      (first | go_meet | (refine Met.intro ?_;go_step;(repeat apply Exists.intro);refine ⟨?rel,?eq⟩;(case eq=>(try simp only [c8b0]);(try simp only [c10b0]);(try simp only [c10b0]);rfl)))
      case rel=>exact ⟨_,(x1_3),(by first | rfl | (simp;done) | (simp [*];done)),H', ⟨by have:=HJ3.out;first | omega | exact Nat.le_refl _⟩,⟨by exact rZ_ HO_5⟩,⟨by exact bZ_ HB⟩⟩
    case rest =>
     clear HC9
     obtain ⟨kq,x1_8,rfl,HA,HJ8,HO_5,HB⟩:=hcut
     cases kq with
     | zero=>exact absurd HA.out (by simp [spec_PutU.j1])
     | succ kj8 =>
      have H:=HA.out
      clear HA
      simp only [spec_PutU.j1] at H
      have H':=aM_ H
      clear H
      go_wp2
      (try simp only [Act.put,sI_,sS_,sZ_])
      go_loopg [1,5] kj8 (fun kq v1 v5 w'=>∃ (x1_3 : Int) (x5_3 : List Int),v1 = .int .i64 x1_3 ∧ Aside0 (spec_PutU.l0 kq x1_3 x5_3 = some r) ∧ Aside0 (kq ≤ kj8) ∧ Aside0 (Kd.R (Kd.int .u8) 5 w' w.heap.size (fun _=>True) v5 x5_3) ∧ Aside0 (Below w.heap.size w w'))
      case atStart=>exact ⟨(x1_8),(y157),(by first | rfl | (simp;done) | (simp [*];done)),H', ⟨Nat.le_refl _⟩,⟨by exact rZ_ HO_5⟩,⟨by exact bZ_ HB⟩⟩
      case round =>
       clear H'
       obtain ⟨x1_3,x5_3,rfl,HA,HK3,HO_5,HB⟩:=hrel
       cases gk with
       | zero=>exact absurd HA.out (by simp [spec_PutU.l0])
       | succ k3 =>
        have H:=HA.out
        clear HA
        simp only [spec_PutU.l0] at H
        by_cases c11 : x1_3 > 127
        ·rw [if_pos c11] at H
         have c11b0 : decide (127 < x1_3) = true:=decide_eq_true c11
         clear c11
         by_cases c12 : x5_3.length < 140737488355328
         ·rw [if_pos c12] at H
          have LMc12:=aM_ c12
          clear c12
          obtain ⟨y160,hy160⟩ : ∃ y_ : List Int,y_ = (x5_3 ++ [(Go.bits .or .i64 (Go.bits .and .i64 x1_3 127) 128) % 256]):=⟨_,rfl⟩
          replace H : (spec_PutU.l0 k3 (x1_3 / 128) y160) = some r:=by first | (rw [hy160];with_reducible exact H) | (have H2_:=(Option.bind_some _ _).symm.trans H;rw [hy160];with_reducible exact H2_) | (have H2_:=(Option.bind_some _ _).symm.trans H;with_reducible exact H2_) | with_reducible exact H | (rw [hy160];exact H) | exact H
          have Ny160:=aM_ hy160
          clear hy160
          have H':=aM_ H
          clear H
          go_wp2_with (first | ((with_reducible refine gate_builtin (b:=.append) (xs:=#[.tmp 15,.tmp 20]) rfl ?_);at_builtin;refine Kd.R_append (Kd.int .u8) (w0:=w) w.heap.size rfl (.tmp 15) (.tmp 20) 27 5 (.int .u8 0) 1 rfl Try.underlying27 info5 rfl (by decide) (by omega) u5 x5_3 ((Go.bits .or .i64 (Go.bits .and .i64 x1_3 127) 128) % 256) [.int .u8 ((Go.bits .or .i64 (Go.bits .and .i64 x1_3 127) 128) % 256)] (fun _=>True) (fun _=>False) rfl rfl ?aP (fun _ hk=>hk.elim) ?aF ?aO ?aB ?aS ?aL ?_;(case aP=>exact rfl);(case aB=>exact (by exact bZ_ HB));(case aF=>exact (fun _ _=>trivial));(case aO=>exact (by exact rZ_ HO_5));(case aS=>exact (bS_ (by exact bZ_ HB)));(case aL=>have:=LMc12.out;omega);intro v161 w13 ho hb hg hat;rw [← Ny160.out] at ho;have n0_:=aM_ (hb);have n1_:=aM_ (ho);clear HB HO_5;have HB:=n0_;have HO162:=n1_;clear n0_ n1_ ho hb hg hat))
          go_roundg k3
          case measure=>have:=HJ3.out;have:=HJ8.out;have:=HK3.out;omega
          case rel=>exact ⟨(x1_3 / 128),(y160),(by first | rfl | (simp;done) | (simp [*];done)),H', ⟨by have:=HJ3.out;have:=HJ8.out;have:=HK3.out;omega⟩,⟨by exact rZ_ HO162⟩,⟨by exact bZ_ HB⟩⟩
         ·rw [if_neg c12] at H
          exact absurd H (by simp)
        ·rw [if_neg c11] at H
         have c11b0 : decide (127 < x1_3) = false:=decide_eq_false c11
         clear c11
         by_cases c14 : x5_3.length < 140737488355328
         ·rw [if_pos c14] at H
          have LMc14:=aM_ c14
          clear c14
          obtain ⟨y163,hy163⟩ : ∃ y_ : List Int,y_ = (x5_3 ++ [(x1_3) % 256]):=⟨_,rfl⟩
          replace H : (some y163) = some r:=by first | (rw [hy163];with_reducible exact H) | (have H2_:=(Option.bind_some _ _).symm.trans H;rw [hy163];with_reducible exact H2_) | (have H2_:=(Option.bind_some _ _).symm.trans H;with_reducible exact H2_) | with_reducible exact H | (rw [hy163];exact H) | exact H
          have Ny163:=aM_ hy163
          clear hy163
          obtain rfl:=Option.some.inj H
          go_wp2_with (first | ((with_reducible refine gate_builtin (b:=.append) (xs:=#[.tmp 24,.tmp 27]) rfl ?_);at_builtin;refine Kd.R_append (Kd.int .u8) (w0:=w) w.heap.size rfl (.tmp 24) (.tmp 27) 27 5 (.int .u8 0) 1 rfl Try.underlying27 info5 rfl (by decide) (by omega) u5 x5_3 ((x1_3) % 256) [.int .u8 ((x1_3) % 256)] (fun _=>True) (fun _=>False) rfl rfl ?aP (fun _ hk=>hk.elim) ?aF ?aO ?aB ?aS ?aL ?_;(case aP=>exact rfl);(case aB=>exact (by exact bZ_ HB));(case aF=>exact (fun _ _=>trivial));(case aO=>exact (by exact rZ_ HO_5));(case aS=>exact (bS_ (by exact bZ_ HB)));(case aL=>have:=LMc14.out;omega);intro v164 w15 ho hb hg hat;rw [← Ny163.out] at ho;have n0_:=aM_ (hb);have n1_:=aM_ (ho);clear HB HO_5;have HB:=n0_;have HO165:=n1_;clear n0_ n1_ ho hb hg hat))
          go_ret
          exact ⟨_,by first | rfl | (simp [errW_none,errW_some] <;> rfl) | (simp [*, errW_none,errW_some] <;> rfl),by exact rZ_ HO165,by exact bZ_ HB⟩
         ·rw [if_neg c14] at H
          exact absurd H (by simp)
 ·rw [if_neg c3] at H
  exact absurd H (by simp)
def spec_PutText.f (k : Nat) (l0 : List Int) (a1 : ByteArray) : Option (List Int):=(spec_PutU.f k l0 (a1.size : Int)).bind fun t166=>(if t166.length + a1.size < 140737488355328 then (some (t166 ++ bytesOf a1)) else (none))
theorem spec_PutText.mono : ∀ a0 a1 k,LeO (spec_PutText.f k a0 a1) (spec_PutText.f (k + 1) a0 a1):=by
 intro a0 a1 k
 unfold spec_PutText.f
 repeat' first
   | (with_reducible exact spec_PutU.mono _ _ _)
   | (with_reducible exact LeO.refl _)
   | (with_reducible exact LeO.none _)
   | (with_reducible refine LeO.ite ?_ ?_)
   | (with_reducible refine LeO.bind ?_ (fun _=>?_))
   | exact spec_PutU.mono _ _ _
   | exact LeO.none _
   | refine LeO.ite ?_ ?_
   | refine LeO.bind ?_ (fun _=>?_)
set_option maxHeartbeats 8000000 in
set_option maxRecDepth 100000 in
theorem spec_PutText.calls (k : Nat) (A0 : Option Addr) (c0 : Nat) (l0 : List Int) (a1 : ByteArray) (r : List Int) (w : World) (hr0 : Kd.C (Kd.int .u8) w A0 l0.length l0) (hc0 : l0.length ≤ c0) (h : spec_PutText.f k l0 a1 = some r) :
  Calls Try.prog 95 #[.slice A0 l0.length c0,.string a1] w fun e w'=>∃ v0_ : Value,e = .returned (v0_) ∧ Kd.R (Kd.int .u8) 5 w' w.heap.size (fun _=>True) v0_ r ∧ Below w.heap.size w w':=by
 have HR0:=aM_ hr0
 have HC0:=aM_ hc0
 clear hr0 hc0
 have HB:=aM_ (Below.refl w.heap.size w)
 have H : ((spec_PutU.f k l0 (a1.size : Int)).bind fun t166=>(if t166.length + a1.size < 140737488355328 then (some (t166 ++ bytesOf a1)) else (none))) = some r:=h
 clear h
 replace H:=oB_ H
 obtain ⟨t166,A30,H⟩:=H
 replace H : (if t166.length + a1.size < 140737488355328 then (some (t166 ++ bytesOf a1)) else (none)) = some r:=H
 have A3:=aM_ A30
 clear A30
 by_cases c4 : t166.length + a1.size < 140737488355328
 ·rw [if_pos c4] at H
  have LMc4:=aM_ c4
  clear c4
  obtain ⟨y169,hy169⟩ : ∃ y_ : List Int,y_ = (t166 ++ bytesOf a1):=⟨_,rfl⟩
  replace H : (some y169) = some r:=by first | (rw [hy169];with_reducible exact H) | (have H2_:=(Option.bind_some _ _).symm.trans H;rw [hy169];with_reducible exact H2_) | (have H2_:=(Option.bind_some _ _).symm.trans H;with_reducible exact H2_) | with_reducible exact H | (rw [hy169];exact H) | exact H
  have Ny169:=aM_ hy169
  clear hy169
  obtain rfl:=Option.some.inj H
  go_enter Try.func95,Try.ntmps95
  go_wp2_with (first | ((with_reducible refine gate_callee (f:=93) rfl ?_);refine goesL_ (some 8) rfl rfl Try.func93 (by kernel_rfl) rfl #[.slice A0 l0.length c0,.int .i64 (a1.size : Int)] rfl (by (try simp only [mA_,mC_,mN_]);first | done | rfl | (simp only [lD_,lT_];rfl)) ?_;(with_reducible refine (spec_PutU.calls k _ _ l0 (a1.size : Int) t166 _ ?side1 ?side2 A3.out).mono ?_);(case side1=>repeat (first | exact HR0.out | (with_reducible refine cA_ ?_ _) | (with_reducible refine cN_ ?_ _) | (with_reducible refine cD_ ?_)));(case side2=>exact HC0.out);rintro e w5 ⟨v167,rfl,ho0,hb⟩;refine ⟨_,rfl,?_⟩;have n0_:=aM_ (Kd.R_lower ho0 (bS_ (by exact bZ_ HB)));have n1_:=aM_ (bT_ (by exact bZ_ HB) hb);clear HB;have HO168:=n0_;have HB:=n1_;clear n0_ n1_ hb ho0) | (at_builtin;refine append_str (w0:=w) w.heap.size rfl (.tmp 8) _ 27 9 5 rfl Try.underlying27 Try.underlying9 info5 v167 t166 a1 (fun _=>True) rfl rfl ?aO ?aF ?aB ?aS ?aL ?_;(case aB=>exact (by exact bZ_ HB));(case aF=>exact (fun _ _=>trivial));(case aO=>exact (by exact rZ_ HO168));(case aS=>exact (bS_ (by exact bZ_ HB)));(case aL=>have:=LMc4.out;omega);intro v170 w6 ho hb hg hat;rw [← Ny169.out] at ho;have n0_:=aM_ (hb);have n1_:=aM_ (ho);clear HB HO168;have HB:=n0_;have HO171:=n1_;clear n0_ n1_ ho hb hg hat))
  go_ret
  exact ⟨_,by first | rfl | (simp [errW_none,errW_some] <;> rfl) | (simp [*, errW_none,errW_some] <;> rfl),by exact rZ_ HO171,by exact bZ_ HB⟩
 ·rw [if_neg c4] at H
  exact absurd H (by simp)
end Go.Proofs.Ytllgmgpfdnofmaa.PFnNodes
