import Derived.Test.YtllgmgpfdnofmaaZRRPFnRowsReadx0
import Derived.Test.YtllgmgpfdnofmaaZRRPFnRowsReadx7
import Derived.Test.YtllgmgpfdnofmaaZRRPFnRowsReadx8
namespace Go.Proofs.Ytllgmgpfdnofmaa.PFnRowsRead
open Go.RowKit Go.Proofs.YtllgmgpfdnofmaaW.PrintWords Go.Proofs.YtllgmgpfdnofmaaW.PrintLast Go.Proofs.YtllgmgpfdnofmaaW.PrintMore Go.Proofs.Ytllgmgpfdnofmaa.Xtra
attribute [local go_sem] max2_int min2_int max_two min_two max_three min_three max_four min_four str_leq str_gtr str_geq setCell_drewN cell_set2 cell_set3   -- for this text's walks alone
set_option linter.unusedVariables false
set_option linter.unusedSimpArgs false
mutual
def spec_PutU.j0 : Nat → Int → List Int → Option (List Int)
 | 0,_,_=>none
 | k + 1,x1,x5=>if x1 < 0 then (spec_PutU.j1 k 0 x5) else (spec_PutU.j1 k x1 x5)
def spec_PutU.j1 : Nat → Int → List Int → Option (List Int)
 | 0,_,_=>none
 | k + 1,x1,x5=>spec_PutU.l0 k x1 x5
def spec_PutU.l0 : Nat → Int → List Int → Option (List Int)
 | 0,_,_=>none
 | k + 1,x1,x5=>if x1 > 127 then (if x5.length < 140737488355328 then (spec_PutU.l0 k (x1 / 128) (x5 ++ [(Go.bits .or .i64 (Go.bits .and .i64 x1 127) 128) % 256])) else (none)) else (if x5.length < 140737488355328 then (some (x5 ++ [(x1) % 256])) else (none))
end
def spec_PutU.f (k : Nat) (l0 : List Int) (a1 : Int) : Option (List Int):=(some (([] : List Int) : List Int)).bind fun y411=>(if y411.length + l0.length < 140737488355328 then ((some (y411 ++ l0 : List Int)).bind fun y414=>(if a1 > 1000000 then (spec_PutU.j0 k 1000000 y414) else (spec_PutU.j0 k a1 y414))) else (none))
theorem spec_PutU.mono_l : ∀ k,(∀ y0 y1,LeO (spec_PutU.j0 k y0 y1) (spec_PutU.j0 (k + 1) y0 y1)) ∧ (∀ y0 y1,LeO (spec_PutU.j1 k y0 y1) (spec_PutU.j1 (k + 1) y0 y1)) ∧ (∀ y0 y1,LeO (spec_PutU.l0 k y0 y1) (spec_PutU.l0 (k + 1) y0 y1))
 | 0=>⟨fun _ _ r h=>by simp [spec_PutU.j0] at h,fun _ _ r h=>by simp [spec_PutU.j1] at h,fun _ _ r h=>by simp [spec_PutU.l0] at h⟩
 | k + 1=>by
  obtain ⟨ih0,ih1,ih2⟩:=spec_PutU.mono_l k
  refine ⟨?_,?_,?_⟩
  ·intro y0 y1
   unfold spec_PutU.j0
   repeat' first
   | (with_reducible exact ih0 _ _)
   | (with_reducible exact ih1 _ _)
   | (with_reducible exact ih2 _ _)
   | (with_reducible exact LeO.refl _)
   | (with_reducible exact LeO.none _)
   | (with_reducible refine LeO.ite ?_ ?_)
   | (with_reducible refine LeO.bind ?_ (fun _=>?_))
   | exact ih0 _ _
   | exact ih1 _ _
   | exact ih2 _ _
   | exact LeO.none _
   | refine LeO.ite ?_ ?_
   | refine LeO.bind ?_ (fun _=>?_)
  ·intro y0 y1
   unfold spec_PutU.j1
   repeat' first
   | (with_reducible exact ih0 _ _)
   | (with_reducible exact ih1 _ _)
   | (with_reducible exact ih2 _ _)
   | (with_reducible exact LeO.refl _)
   | (with_reducible exact LeO.none _)
   | (with_reducible refine LeO.ite ?_ ?_)
   | (with_reducible refine LeO.bind ?_ (fun _=>?_))
   | exact ih0 _ _
   | exact ih1 _ _
   | exact ih2 _ _
   | exact LeO.none _
   | refine LeO.ite ?_ ?_
   | refine LeO.bind ?_ (fun _=>?_)
  ·intro y0 y1
   unfold spec_PutU.l0
   repeat' first
   | (with_reducible exact ih0 _ _)
   | (with_reducible exact ih1 _ _)
   | (with_reducible exact ih2 _ _)
   | (with_reducible exact LeO.refl _)
   | (with_reducible exact LeO.none _)
   | (with_reducible refine LeO.ite ?_ ?_)
   | (with_reducible refine LeO.bind ?_ (fun _=>?_))
   | exact ih0 _ _
   | exact ih1 _ _
   | exact ih2 _ _
   | exact LeO.none _
   | refine LeO.ite ?_ ?_
   | refine LeO.bind ?_ (fun _=>?_)
theorem spec_PutU.mono : ∀ a0 a1 k,LeO (spec_PutU.f k a0 a1) (spec_PutU.f (k + 1) a0 a1):=by
 intro a0 a1 k
 obtain ⟨ih0,ih1,ih2⟩:=spec_PutU.mono_l k
 unfold spec_PutU.f
 repeat' first
   | (with_reducible exact ih0 _ _)
   | (with_reducible exact ih1 _ _)
   | (with_reducible exact ih2 _ _)
   | (with_reducible exact LeO.refl _)
   | (with_reducible exact LeO.none _)
   | (with_reducible refine LeO.ite ?_ ?_)
   | (with_reducible refine LeO.bind ?_ (fun _=>?_))
   | exact ih0 _ _
   | exact ih1 _ _
   | exact ih2 _ _
   | exact LeO.none _
   | refine LeO.ite ?_ ?_
   | refine LeO.bind ?_ (fun _=>?_)
set_option maxHeartbeats 8000000 in
set_option maxRecDepth 100000 in
theorem spec_PutU.calls (k : Nat) (A0 : Option Addr) (c0 : Nat) (l0 : List Int) (a1 : Int) (r : List Int) (w : World) (hr0 : Kd.C (Kd.int .u8) w A0 l0.length l0) (hc0 : l0.length ≤ c0) (h : spec_PutU.f k l0 a1 = some r) :
  Calls Try.prog 93 #[.slice A0 l0.length c0,.int .i64 a1] w fun e w'=>∃ v0_ : Value,e = .returned (v0_) ∧ Kd.R (Kd.int .u8) 5 w' w.heap.size (fun _=>True) v0_ r ∧ Below w.heap.size w w':=by
 have HR0:=aM_ hr0
 have HC0:=aM_ hc0
 clear hr0 hc0
 have HB:=aM_ (Below.refl w.heap.size w)
 have H : ((some (([] : List Int) : List Int)).bind fun y411=>(if y411.length + l0.length < 140737488355328 then ((some (y411 ++ l0 : List Int)).bind fun y414=>(if a1 > 1000000 then (spec_PutU.j0 k 1000000 y414) else (spec_PutU.j0 k a1 y414))) else (none))) = some r:=h
 clear h
 obtain ⟨y411,hy411⟩ : ∃ y_ : List Int,y_ = (([] : List Int)):=⟨_,rfl⟩
 replace H : (if y411.length + l0.length < 140737488355328 then ((some (y411 ++ l0 : List Int)).bind fun y414=>(if a1 > 1000000 then (spec_PutU.j0 k 1000000 y414) else (spec_PutU.j0 k a1 y414))) else (none)) = some r:=by first | (rw [hy411];with_reducible exact H) | (have H2_:=(Option.bind_some _ _).symm.trans H;rw [hy411];with_reducible exact H2_) | (have H2_:=(Option.bind_some _ _).symm.trans H;with_reducible exact H2_) | with_reducible exact H | (rw [hy411];exact H) | exact H
 have Ny411:=aM_ hy411
 clear hy411
 by_cases c3 : y411.length + l0.length < 140737488355328
 ·rw [if_pos c3] at H
  have LMc3:=aM_ c3
  clear c3
  obtain ⟨y414,hy414⟩ : ∃ y_ : List Int,y_ = (y411 ++ l0):=⟨_,rfl⟩
  replace H : (if a1 > 1000000 then (spec_PutU.j0 k 1000000 y414) else (spec_PutU.j0 k a1 y414)) = some r:=by first | (rw [hy414];with_reducible exact H) | (have H2_:=(Option.bind_some _ _).symm.trans H;rw [hy414];with_reducible exact H2_) | (have H2_:=(Option.bind_some _ _).symm.trans H;with_reducible exact H2_) | with_reducible exact H | (rw [hy414];exact H) | exact H
  have Ny414:=aM_ hy414
  clear hy414
  have HC4:=aM_ H
  clear H
  go_enter Try.func93,Try.ntmps93
  go_upto_if 10 with (first | ((with_reducible refine gate_dst (N:=6) rfl ?_);refine Kd.R_lit (Kd.int .u8) _ 5 ?hg (N:=6) ?hd (xs:=([] : List Int)) (inner:=[]) (ok:=fun _=>True) (okp:=fun _=>True) ?hr ?hp (fun _ hk=>hk) trivial (Below.refl _ _) (Nat.le_refl _) (by simp) ?_;(case hd=>rfl);(case hg=>rfl);(case hr=>first | (go_simp;done) | (go_simp;rfl));(case hp=>exact (Reps.none _ _));intro v412 w5 ho6 hb hg_ hnew_;clear hg_ hnew_;(first | rw [← Ny411.out] at ho6 | (simp only [Int.reduceToNat] at ho6;rw [← Ny411.out] at ho6));have n0_:=aM_ (Kd.R_lower ho6 (bS_ (by exact bZ_ HB)));have n1_:=aM_ (bT_ (by exact bZ_ HB) hb);clear HB;have HO413:=n0_;have HB:=n1_;clear n0_ n1_;clear hb ho6) | ((with_reducible refine gate_builtin (b:=.append) (xs:=#[.tmp 6,.tmp 7]) rfl ?_);at_builtin;refine Kd.R_append_rows (Kd.int .u8) (w0:=w) w.heap.size rfl (.tmp 6) (.tmp 7) 27 5 (.int .u8 0) 1 rfl Try.underlying27 info5 rfl (by decide) (by omega) v412 y411 l0 _ _ _ (fun _=>True) (fun _=>False) rfl rfl ?aO ?aR (fun _ _ h=>h) (fun _ h=>h.elim) ?aF ?aB ?aS ?aL ?_;(case aR=>repeat (first | exact (Kd.C_below HR0.out HB.out) | (with_reducible refine cA_ ?_ _) | (with_reducible refine cN_ ?_ _) | (with_reducible refine cD_ ?_)));(case aB=>exact (by exact bZ_ HB));(case aF=>exact (fun _ _=>trivial));(case aO=>exact (by exact rZ_ HO413));(case aS=>exact (bS_ (by exact bZ_ HB)));(case aL=>have:=LMc3.out;omega);intro v415 w7 ho hb hg hat;rw [← Ny414.out] at ho;have n0_:=aM_ (hb);have n1_:=aM_ (ho);clear HB;clear HO413;have HB:=n0_;have HO416:=n1_;clear n0_ n1_;clear ho hb hg hat))
  (try simp only [Act.put,sI_,sZ_,sS_])
  go_cut [1] (fun v1 wc=>∃ (kq : Nat) (x1_3 : Int),v1 = .int .i64 x1_3 ∧ Aside0 (spec_PutU.j0 kq x1_3 y414 = some r) ∧ Aside0 (kq ≤ k) ∧ Aside0 (Kd.R (Kd.int .u8) 5 wc w.heap.size (fun _=>True) v415 y414) ∧ Aside0 (Below w.heap.size w wc))
  case first =>
   have H:=HC4.out
   clear HC4
   by_cases c8 : a1 > 1000000
   ·rw [if_pos c8] at H
    have c8b0 : decide (1000000 < a1) = true:=decide_eq_true c8
    clear c8
    (first | rw [c8b0] | (simp only [i64_w,i32_w];rw [c8b0]) | skip)
    have H':=aM_ H
    clear H
    go_wp2
    (first | go_meet | (refine Met.intro ?_;go_step;(repeat apply Exists.intro);refine ⟨?rel,?eq⟩;(case eq=>(try simp only [c12b0]);(try simp only [c12b0]);(try simp only [c8b0]);rfl)))
    case rel=>exact ⟨_,(1000000),(by first | rfl | (simp;done) | (simp [*];done)),H', ⟨by first | omega | exact Nat.le_refl _⟩,⟨by exact rZ_ HO416⟩,⟨by exact bZ_ HB⟩⟩
   ·rw [if_neg c8] at H
    have c8b0 : decide (1000000 < a1) = false:=decide_eq_false c8
    clear c8
    (first | rw [c8b0] | (simp only [i64_w,i32_w];rw [c8b0]) | skip)
    have H':=aM_ H
    clear H
    go_wp2
    (first | go_meet | (refine Met.intro ?_;go_step;(repeat apply Exists.intro);refine ⟨?rel,?eq⟩;(case eq=>(try simp only [c12b0]);(try simp only [c8b0]);(try simp only [c8b0]);rfl)))
    case rel=>exact ⟨_,(a1),(by first | rfl | (simp;done) | (simp [*];done)),H', ⟨by first | omega | exact Nat.le_refl _⟩,⟨by exact rZ_ HO416⟩,⟨by exact bZ_ HB⟩⟩
  case rest =>
   clear HC4
   try clear c1
   try clear p2
   try clear c3
   try clear c8
   try clear c8b0
   obtain ⟨kq,x1_3,rfl,HA,HJ3,HO_5,HB⟩:=hcut
   cases kq with
   | zero=>exact absurd HA.out (by simp [spec_PutU.j0])
   | succ kj3 =>
    have H:=HA.out
    clear HA
    simp only [spec_PutU.j0] at H
    have HC9:=aM_ H
    clear H
    go_upto_if 12 with (fail)
    go_cut [1] (fun v1 wc=>∃ (kq : Nat) (x1_8 : Int),v1 = .int .i64 x1_8 ∧ Aside0 (spec_PutU.j1 kq x1_8 y414 = some r) ∧ Aside0 (kq ≤ kj3) ∧ Aside0 (Kd.R (Kd.int .u8) 5 wc w.heap.size (fun _=>True) v415 y414) ∧ Aside0 (Below w.heap.size w wc))
    case first =>
     have H:=HC9.out
     clear HC9
     by_cases c10 : x1_3 < 0
     ·rw [if_pos c10] at H
      have c10b0 : decide (x1_3 < 0) = true:=decide_eq_true c10
      clear c10
      (first | rw [c10b0] | (simp only [i64_w,i32_w];rw [c10b0]) | skip)
      have H':=aM_ H
      clear H
      go_wp2
      (first | go_meet | (refine Met.intro ?_;go_step;(repeat apply Exists.intro);refine ⟨?rel,?eq⟩;(case eq=>(try simp only [c8b0]);(try simp only [c8b0]);(try simp only [c10b0]);rfl)))
      case rel=>exact ⟨_,(0),(by first | rfl | (simp;done) | (simp [*];done)),H', ⟨by have:=HJ3.out;first | omega | exact Nat.le_refl _⟩,⟨by exact rZ_ HO_5⟩,⟨by exact bZ_ HB⟩⟩
     ·rw [if_neg c10] at H
      have c10b0 : decide (x1_3 < 0) = false:=decide_eq_false c10
      clear c10
      (first | rw [c10b0] | (simp only [i64_w,i32_w];rw [c10b0]) | skip)
      have H':=aM_ H
      clear H
      go_wp2
      (first | go_meet | (refine Met.intro ?_;go_step;(repeat apply Exists.intro);refine ⟨?rel,?eq⟩;(case eq=>(try simp only [c8b0]);(try simp only [c10b0]);(try simp only [c10b0]);rfl)))
      case rel=>exact ⟨_,(x1_3),(by first | rfl | (simp;done) | (simp [*];done)),H', ⟨by have:=HJ3.out;first | omega | exact Nat.le_refl _⟩,⟨by exact rZ_ HO_5⟩,⟨by exact bZ_ HB⟩⟩
    case rest =>
     clear HC9
     try clear c1
     try clear p2
     try clear c3
     try clear c8
     try clear c8b0
     try clear c9
     try clear c10
     try clear c10b0
     try clear p2
     obtain ⟨kq,x1_8,rfl,HA,HJ8,HO_5,HB⟩:=hcut
     cases kq with
     | zero=>exact absurd HA.out (by simp [spec_PutU.j1])
     | succ kj8 =>
      have H:=HA.out
      clear HA
      simp only [spec_PutU.j1] at H
      have H':=aM_ H
      clear H
      go_wp2
      (try simp only [Act.put,sI_,sS_,sZ_])
      go_loopg [1,5] kj8 (fun kq v1 v5 w'=>∃ (x1_3 : Int) (x5_3 : List Int),v1 = .int .i64 x1_3 ∧ Aside0 (spec_PutU.l0 kq x1_3 x5_3 = some r) ∧ Aside0 (kq ≤ kj8) ∧ Aside0 (Kd.R (Kd.int .u8) 5 w' w.heap.size (fun _=>True) v5 x5_3) ∧ Aside0 (Below w.heap.size w w'))
      case atStart=>exact ⟨(x1_8),(y414),(by first | rfl | (simp;done) | (simp [*];done)),H', ⟨Nat.le_refl _⟩,⟨by exact rZ_ HO_5⟩,⟨by exact bZ_ HB⟩⟩
      case round =>
       clear H'
       try clear c1
       try clear p2
       try clear c3
       try clear c8
       try clear c8b0
       try clear c9
       try clear c10
       try clear c10b0
       try clear p2
       obtain ⟨x1_3,x5_3,rfl,HA,HK3,HO_5,HB⟩:=hrel
       cases gk with
       | zero=>exact absurd HA.out (by simp [spec_PutU.l0])
       | succ k3 =>
        have H:=HA.out
        clear HA
        simp only [spec_PutU.l0] at H
        by_cases c11 : x1_3 > 127
        ·rw [if_pos c11] at H
         have c11b0 : decide (127 < x1_3) = true:=decide_eq_true c11
         clear c11
         by_cases c12 : x5_3.length < 140737488355328
         ·rw [if_pos c12] at H
          have LMc12:=aM_ c12
          clear c12
          obtain ⟨y417,hy417⟩ : ∃ y_ : List Int,y_ = (x5_3 ++ [(Go.bits .or .i64 (Go.bits .and .i64 x1_3 127) 128) % 256]):=⟨_,rfl⟩
          replace H : (spec_PutU.l0 k3 (x1_3 / 128) y417) = some r:=by first | (rw [hy417];with_reducible exact H) | (have H2_:=(Option.bind_some _ _).symm.trans H;rw [hy417];with_reducible exact H2_) | (have H2_:=(Option.bind_some _ _).symm.trans H;with_reducible exact H2_) | with_reducible exact H | (rw [hy417];exact H) | exact H
          have Ny417:=aM_ hy417
          clear hy417
          have H':=aM_ H
          clear H
          go_wp2_with (first | ((with_reducible refine gate_builtin (b:=.append) (xs:=#[.tmp 15,.tmp 20]) rfl ?_);at_builtin;refine Kd.R_append (Kd.int .u8) (w0:=w) w.heap.size rfl (.tmp 15) (.tmp 20) 27 5 (.int .u8 0) 1 rfl Try.underlying27 info5 rfl (by decide) (by omega) u5 x5_3 ((Go.bits .or .i64 (Go.bits .and .i64 x1_3 127) 128) % 256) [.int .u8 ((Go.bits .or .i64 (Go.bits .and .i64 x1_3 127) 128) % 256)] (fun _=>True) (fun _=>False) rfl rfl ?aP (fun _ hk=>hk.elim) ?aF ?aO ?aB ?aS ?aL ?_;(case aP=>exact rfl);(case aB=>exact (by exact bZ_ HB));(case aF=>exact (fun _ _=>trivial));(case aO=>exact (by exact rZ_ HO_5));(case aS=>exact (bS_ (by exact bZ_ HB)));(case aL=>have:=LMc12.out;omega);intro v418 w13 ho hb hg hat;rw [← Ny417.out] at ho;have n0_:=aM_ (hb);have n1_:=aM_ (ho);clear HB;clear HO_5;have HB:=n0_;have HO419:=n1_;clear n0_ n1_;clear ho hb hg hat))
          go_roundg k3
          case measure=>have:=HJ3.out;have:=HJ8.out;have:=HK3.out;omega
          case rel=>exact ⟨(x1_3 / 128),(y417),(by first | rfl | (simp;done) | (simp [*];done)),H', ⟨by have:=HJ3.out;have:=HJ8.out;have:=HK3.out;omega⟩,⟨by exact rZ_ HO419⟩,⟨by exact bZ_ HB⟩⟩
         ·rw [if_neg c12] at H
          exact absurd H (by simp)
        ·rw [if_neg c11] at H
         have c11b0 : decide (127 < x1_3) = false:=decide_eq_false c11
         clear c11
         by_cases c14 : x5_3.length < 140737488355328
         ·rw [if_pos c14] at H
          have LMc14:=aM_ c14
          clear c14
          obtain ⟨y420,hy420⟩ : ∃ y_ : List Int,y_ = (x5_3 ++ [(x1_3) % 256]):=⟨_,rfl⟩
          replace H : (some y420) = some r:=by first | (rw [hy420];with_reducible exact H) | (have H2_:=(Option.bind_some _ _).symm.trans H;rw [hy420];with_reducible exact H2_) | (have H2_:=(Option.bind_some _ _).symm.trans H;with_reducible exact H2_) | with_reducible exact H | (rw [hy420];exact H) | exact H
          have Ny420:=aM_ hy420
          clear hy420
          obtain rfl:=Option.some.inj H
          go_wp2_with (first | ((with_reducible refine gate_builtin (b:=.append) (xs:=#[.tmp 24,.tmp 27]) rfl ?_);at_builtin;refine Kd.R_append (Kd.int .u8) (w0:=w) w.heap.size rfl (.tmp 24) (.tmp 27) 27 5 (.int .u8 0) 1 rfl Try.underlying27 info5 rfl (by decide) (by omega) u5 x5_3 ((x1_3) % 256) [.int .u8 ((x1_3) % 256)] (fun _=>True) (fun _=>False) rfl rfl ?aP (fun _ hk=>hk.elim) ?aF ?aO ?aB ?aS ?aL ?_;(case aP=>exact rfl);(case aB=>exact (by exact bZ_ HB));(case aF=>exact (fun _ _=>trivial));(case aO=>exact (by exact rZ_ HO_5));(case aS=>exact (bS_ (by exact bZ_ HB)));(case aL=>have:=LMc14.out;omega);intro v421 w15 ho hb hg hat;rw [← Ny420.out] at ho;have n0_:=aM_ (hb);have n1_:=aM_ (ho);clear HB;clear HO_5;have HB:=n0_;have HO422:=n1_;clear n0_ n1_;clear ho hb hg hat))
          go_ret
          exact ⟨_,by first | rfl | (simp [errW_none,errW_some] <;> rfl) | (simp [*, errW_none,errW_some] <;> rfl),by exact rZ_ HO422,by exact bZ_ HB⟩
         ·rw [if_neg c14] at H
          exact absurd H (by simp)
 ·rw [if_neg c3] at H
  exact absurd H (by simp)
def spec_PutText.f (k : Nat) (l0 : List Int) (a1 : ByteArray) : Option (List Int):=(spec_PutU.f k l0 (a1.size : Int)).bind fun t423=>(if t423.length + a1.size < 140737488355328 then (some (t423 ++ bytesOf a1)) else (none))
theorem spec_PutText.mono : ∀ a0 a1 k,LeO (spec_PutText.f k a0 a1) (spec_PutText.f (k + 1) a0 a1):=by
 intro a0 a1 k
 unfold spec_PutText.f
 repeat' first
   | (with_reducible exact spec_PutU.mono _ _ _)
   | (with_reducible exact LeO.refl _)
   | (with_reducible exact LeO.none _)
   | (with_reducible refine LeO.ite ?_ ?_)
   | (with_reducible refine LeO.bind ?_ (fun _=>?_))
   | exact spec_PutU.mono _ _ _
   | exact LeO.none _
   | refine LeO.ite ?_ ?_
   | refine LeO.bind ?_ (fun _=>?_)
set_option maxHeartbeats 8000000 in
set_option maxRecDepth 100000 in
theorem spec_PutText.calls (k : Nat) (A0 : Option Addr) (c0 : Nat) (l0 : List Int) (a1 : ByteArray) (r : List Int) (w : World) (hr0 : Kd.C (Kd.int .u8) w A0 l0.length l0) (hc0 : l0.length ≤ c0) (h : spec_PutText.f k l0 a1 = some r) :
  Calls Try.prog 95 #[.slice A0 l0.length c0,.string a1] w fun e w'=>∃ v0_ : Value,e = .returned (v0_) ∧ Kd.R (Kd.int .u8) 5 w' w.heap.size (fun _=>True) v0_ r ∧ Below w.heap.size w w':=by
 have HR0:=aM_ hr0
 have HC0:=aM_ hc0
 clear hr0 hc0
 have HB:=aM_ (Below.refl w.heap.size w)
 have H : ((spec_PutU.f k l0 (a1.size : Int)).bind fun t423=>(if t423.length + a1.size < 140737488355328 then (some (t423 ++ bytesOf a1)) else (none))) = some r:=h
 clear h
 replace H:=oB_ H
 obtain ⟨t423,A30,H⟩:=H
 replace H : (if t423.length + a1.size < 140737488355328 then (some (t423 ++ bytesOf a1)) else (none)) = some r:=H
 have A3:=aM_ A30
 clear A30
 by_cases c4 : t423.length + a1.size < 140737488355328
 ·rw [if_pos c4] at H
  have LMc4:=aM_ c4
  clear c4
  obtain ⟨y426,hy426⟩ : ∃ y_ : List Int,y_ = (t423 ++ bytesOf a1):=⟨_,rfl⟩
  replace H : (some y426) = some r:=by first | (rw [hy426];with_reducible exact H) | (have H2_:=(Option.bind_some _ _).symm.trans H;rw [hy426];with_reducible exact H2_) | (have H2_:=(Option.bind_some _ _).symm.trans H;with_reducible exact H2_) | with_reducible exact H | (rw [hy426];exact H) | exact H
  have Ny426:=aM_ hy426
  clear hy426
  obtain rfl:=Option.some.inj H
  go_enter Try.func95,Try.ntmps95
  go_wp2_with (first | ((with_reducible refine gate_callee (f:=93) rfl ?_);refine goesL_ (some 8) rfl rfl Try.func93 (by kernel_rfl) rfl #[.slice A0 l0.length c0,.int .i64 (a1.size : Int)] rfl (by (try simp only [mA_,mC_,mN_]);first | done | rfl | (simp only [lD_,lT_];rfl)) ?_;(with_reducible refine (spec_PutU.calls k _ _ l0 (a1.size : Int) t423 _ ?side1 ?side2 A3.out).mono ?_);(case side1=>repeat (first | exact HR0.out | (with_reducible refine cA_ ?_ _) | (with_reducible refine cN_ ?_ _) | (with_reducible refine cD_ ?_)));(case side2=>exact HC0.out);rintro e w5 ⟨v424,rfl,ho0,hb⟩;refine ⟨_,rfl,?_⟩;have n0_:=aM_ (Kd.R_lower ho0 (bS_ (by exact bZ_ HB)));have n1_:=aM_ (bT_ (by exact bZ_ HB) hb);clear HB;have HO425:=n0_;have HB:=n1_;clear n0_ n1_;(try clear hb);(try clear hb2);(try clear hk);(try clear hi);(try clear ho0)) | (at_builtin;refine append_str (w0:=w) w.heap.size rfl (.tmp 8) _ 27 9 5 rfl Try.underlying27 Try.underlying9 info5 v424 t423 a1 (fun _=>True) rfl rfl ?aO ?aF ?aB ?aS ?aL ?_;(case aB=>exact (by exact bZ_ HB));(case aF=>exact (fun _ _=>trivial));(case aO=>exact (by exact rZ_ HO425));(case aS=>exact (bS_ (by exact bZ_ HB)));(case aL=>have:=LMc4.out;omega);intro v427 w6 ho hb hg hat;rw [← Ny426.out] at ho;have n0_:=aM_ (hb);have n1_:=aM_ (ho);clear HB;clear HO425;have HB:=n0_;have HO428:=n1_;clear n0_ n1_;clear ho hb hg hat))
  go_ret
  exact ⟨_,by first | rfl | (simp [errW_none,errW_some] <;> rfl) | (simp [*, errW_none,errW_some] <;> rfl),by exact rZ_ HO428,by exact bZ_ HB⟩
 ·rw [if_neg c4] at H
  exact absurd H (by simp)
def spec_PutSum.f (k : Nat) (l0 : List Int) : Option (List Int):=(spec_Crc.f k l0).bind fun t429=>((some (([] : List Int) : List Int)).bind fun y430=>(if y430.length + l0.length < 140737488355328 then ((some (y430 ++ l0 : List Int)).bind fun y433=>((some (([(t429 / 16777216) % 256,(t429 / 65536) % 256,(t429 / 256) % 256,(t429) % 256] : List Int) : List Int)).bind fun y436=>(if y433.length + y436.length < 140737488355328 then (some (y433 ++ y436)) else (none)))) else (none)))
theorem spec_PutSum.mono : ∀ a0 k,LeO (spec_PutSum.f k a0) (spec_PutSum.f (k + 1) a0):=by
 intro a0 k
 unfold spec_PutSum.f
 repeat' first
   | (with_reducible exact spec_Crc.mono _ _)
   | (with_reducible exact LeO.refl _)
   | (with_reducible exact LeO.none _)
   | (with_reducible refine LeO.ite ?_ ?_)
   | (with_reducible refine LeO.bind ?_ (fun _=>?_))
   | exact spec_Crc.mono _ _
   | exact LeO.none _
   | refine LeO.ite ?_ ?_
   | refine LeO.bind ?_ (fun _=>?_)
set_option maxHeartbeats 8000000 in
set_option maxRecDepth 100000 in
theorem spec_PutSum.calls (k : Nat) (A0 : Option Addr) (c0 : Nat) (l0 : List Int) (r : List Int) (w : World) (hr0 : Kd.C (Kd.int .u8) w A0 l0.length l0) (hc0 : l0.length ≤ c0) (h : spec_PutSum.f k l0 = some r) :
  Calls Try.prog 96 #[.slice A0 l0.length c0] w fun e w'=>∃ v0_ : Value,e = .returned (v0_) ∧ Kd.R (Kd.int .u8) 5 w' w.heap.size (fun _=>True) v0_ r ∧ Below w.heap.size w w':=by
 have HR0:=aM_ hr0
 have HC0:=aM_ hc0
 clear hr0 hc0
 have HB:=aM_ (Below.refl w.heap.size w)
 have H : ((spec_Crc.f k l0).bind fun t429=>((some (([] : List Int) : List Int)).bind fun y430=>(if y430.length + l0.length < 140737488355328 then ((some (y430 ++ l0 : List Int)).bind fun y433=>((some (([(t429 / 16777216) % 256,(t429 / 65536) % 256,(t429 / 256) % 256,(t429) % 256] : List Int) : List Int)).bind fun y436=>(if y433.length + y436.length < 140737488355328 then (some (y433 ++ y436)) else (none)))) else (none)))) = some r:=h
 clear h
 replace H:=oB_ H
 obtain ⟨t429,A20,H⟩:=H
 replace H : ((some (([] : List Int) : List Int)).bind fun y430=>(if y430.length + l0.length < 140737488355328 then ((some (y430 ++ l0 : List Int)).bind fun y433=>((some (([(t429 / 16777216) % 256,(t429 / 65536) % 256,(t429 / 256) % 256,(t429) % 256] : List Int) : List Int)).bind fun y436=>(if y433.length + y436.length < 140737488355328 then (some (y433 ++ y436)) else (none)))) else (none))) = some r:=H
 have A2:=aM_ A20
 clear A20
 obtain ⟨y430,hy430⟩ : ∃ y_ : List Int,y_ = (([] : List Int)):=⟨_,rfl⟩
 replace H : (if y430.length + l0.length < 140737488355328 then ((some (y430 ++ l0 : List Int)).bind fun y433=>((some (([(t429 / 16777216) % 256,(t429 / 65536) % 256,(t429 / 256) % 256,(t429) % 256] : List Int) : List Int)).bind fun y436=>(if y433.length + y436.length < 140737488355328 then (some (y433 ++ y436)) else (none)))) else (none)) = some r:=by first | (rw [hy430];with_reducible exact H) | (have H2_:=(Option.bind_some _ _).symm.trans H;rw [hy430];with_reducible exact H2_) | (have H2_:=(Option.bind_some _ _).symm.trans H;with_reducible exact H2_) | with_reducible exact H | (rw [hy430];exact H) | exact H
 have Ny430:=aM_ hy430
 clear hy430
 by_cases c3 : y430.length + l0.length < 140737488355328
 ·rw [if_pos c3] at H
  have LMc3:=aM_ c3
  clear c3
  obtain ⟨y433,hy433⟩ : ∃ y_ : List Int,y_ = (y430 ++ l0):=⟨_,rfl⟩
  replace H : ((some (([(t429 / 16777216) % 256,(t429 / 65536) % 256,(t429 / 256) % 256,(t429) % 256] : List Int) : List Int)).bind fun y436=>(if y433.length + y436.length < 140737488355328 then (some (y433 ++ y436)) else (none))) = some r:=by first | (rw [hy433];with_reducible exact H) | (have H2_:=(Option.bind_some _ _).symm.trans H;rw [hy433];with_reducible exact H2_) | (have H2_:=(Option.bind_some _ _).symm.trans H;with_reducible exact H2_) | with_reducible exact H | (rw [hy433];exact H) | exact H
  have Ny433:=aM_ hy433
  clear hy433
  obtain ⟨y436,hy436⟩ : ∃ y_ : List Int,y_ = (([(t429 / 16777216) % 256,(t429 / 65536) % 256,(t429 / 256) % 256,(t429) % 256] : List Int)):=⟨_,rfl⟩
  replace H : (if y433.length + y436.length < 140737488355328 then (some (y433 ++ y436)) else (none)) = some r:=by first | (rw [hy436];with_reducible exact H) | (have H2_:=(Option.bind_some _ _).symm.trans H;rw [hy436];with_reducible exact H2_) | (have H2_:=(Option.bind_some _ _).symm.trans H;with_reducible exact H2_) | with_reducible exact H | (rw [hy436];exact H) | exact H
  have Ny436:=aM_ hy436
  clear hy436
  by_cases c4 : y433.length + y436.length < 140737488355328
  ·rw [if_pos c4] at H
   have LMc4:=aM_ c4
   clear c4
   obtain ⟨y439,hy439⟩ : ∃ y_ : List Int,y_ = (y433 ++ y436):=⟨_,rfl⟩
   replace H : (some y439) = some r:=by first | (rw [hy439];with_reducible exact H) | (have H2_:=(Option.bind_some _ _).symm.trans H;rw [hy439];with_reducible exact H2_) | (have H2_:=(Option.bind_some _ _).symm.trans H;with_reducible exact H2_) | with_reducible exact H | (rw [hy439];exact H) | exact H
   have Ny439:=aM_ hy439
   clear hy439
   obtain rfl:=Option.some.inj H
   go_enter Try.func96,Try.ntmps96
   go_wp2_with (first | ((with_reducible refine gate_callee (f:=148) rfl ?_);refine goesL_ (some 5) rfl rfl Try.func148 (by kernel_rfl) rfl #[.slice A0 l0.length c0] rfl (by (try simp only [mA_,mC_,mN_]);first | done | rfl | (simp only [lD_,lT_];rfl)) ?_;(with_reducible refine (spec_Crc.calls k _ _ l0 t429 _ ?side1 ?side2 A2.out).mono ?_);(case side1=>repeat (first | exact HR0.out | (with_reducible refine cA_ ?_ _) | (with_reducible refine cN_ ?_ _) | (with_reducible refine cD_ ?_)));(case side2=>exact HC0.out);rintro e w' ⟨rfl,⟨nd,rfl⟩⟩;refine ⟨_,rfl,?_⟩) | ((with_reducible refine gate_dst (N:=6) rfl ?_);refine Kd.R_lit (Kd.int .u8) _ 5 ?hg (N:=6) ?hd (xs:=([] : List Int)) (inner:=[]) (ok:=fun _=>True) (okp:=fun _=>True) ?hr ?hp (fun _ hk=>hk) trivial (Below.refl _ _) (Nat.le_refl _) (by simp) ?_;(case hd=>rfl);(case hg=>rfl);(case hr=>first | (go_simp;done) | (go_simp;rfl));(case hp=>exact (Reps.none _ _));intro v431 w5 ho6 hb hg_ hnew_;clear hg_ hnew_;(first | rw [← Ny430.out] at ho6 | (simp only [Int.reduceToNat] at ho6;rw [← Ny430.out] at ho6));have n0_:=aM_ (Kd.R_lower ho6 (bS_ (by exact bZ_ HB)));have n1_:=aM_ (bT_ (by exact bZ_ HB) hb);clear HB;have HO432:=n0_;have HB:=n1_;clear n0_ n1_;clear hb ho6) | ((with_reducible refine gate_builtin (b:=.append) (xs:=#[.tmp 6,.tmp 7]) rfl ?_);at_builtin;refine Kd.R_append_rows (Kd.int .u8) (w0:=w) w.heap.size rfl (.tmp 6) (.tmp 7) 27 5 (.int .u8 0) 1 rfl Try.underlying27 info5 rfl (by decide) (by omega) v431 y430 l0 _ _ _ (fun _=>True) (fun _=>False) rfl rfl ?aO ?aR (fun _ _ h=>h) (fun _ h=>h.elim) ?aF ?aB ?aS ?aL ?_;(case aR=>repeat (first | exact (Kd.C_below HR0.out HB.out) | (with_reducible refine cA_ ?_ _) | (with_reducible refine cN_ ?_ _) | (with_reducible refine cD_ ?_)));(case aB=>exact (by exact bZ_ HB));(case aF=>exact (fun _ _=>trivial));(case aO=>exact (by exact rZ_ HO432));(case aS=>exact (bS_ (by exact bZ_ HB)));(case aL=>have:=LMc3.out;omega);intro v434 w7 ho hb hg hat;rw [← Ny433.out] at ho;have n0_:=aM_ (hb);have n1_:=aM_ (ho);clear HB;clear HO432;have HB:=n0_;have HO435:=n1_;clear n0_ n1_;clear ho hb hg hat) | ((with_reducible refine gate_dst (N:=20) rfl ?_);refine Kd.R_lit (Kd.int .u8) _ 5 ?hg (N:=20) ?hd (xs:=([(t429 / 16777216) % 256,(t429 / 65536) % 256,(t429 / 256) % 256,(t429) % 256] : List Int)) (inner:=[.int .u8 ((t429 / 16777216) % 256),.int .u8 ((t429 / 65536) % 256),.int .u8 ((t429 / 256) % 256),.int .u8 ((t429) % 256)]) (ok:=fun _=>True) (okp:=fun _=>True) ?hr ?hp (fun _ hk=>hk) trivial (Below.refl _ _) (Nat.le_refl _) (by simp) ?_;(case hd=>rfl);(case hg=>rfl);(case hr=>first | (go_simp;done) | (go_simp;rfl));(case hp=>exact (Reps.one (show Kd.M (Kd.int .u8) _ _ _ ((t429 / 16777216) % 256) [.int .u8 ((t429 / 16777216) % 256)] from rfl) (Reps.one (show Kd.M (Kd.int .u8) _ _ _ ((t429 / 65536) % 256) [.int .u8 ((t429 / 65536) % 256)] from rfl) (Reps.one (show Kd.M (Kd.int .u8) _ _ _ ((t429 / 256) % 256) [.int .u8 ((t429 / 256) % 256)] from rfl) (Reps.one (show Kd.M (Kd.int .u8) _ _ _ ((t429) % 256) [.int .u8 ((t429) % 256)] from rfl) (Reps.none _ _))))));intro v437 w8 ho9 hb hg_ hnew_;clear hg_ hnew_;(first | rw [← Ny436.out] at ho9 | (simp only [Int.reduceToNat] at ho9;rw [← Ny436.out] at ho9));have n0_:=aM_ (Kd.R_elder' (by exact rZ_ HO435) (Kd.R_base ho9) hb);have n1_:=aM_ (Kd.R_lower (Kd.R_new' ho9 (Kd.R_lt (by exact rZ_ HO435))) (bS_ (by exact bZ_ HB)));have n2_:=aM_ (bT_ (by exact bZ_ HB) hb);clear HO435;clear HB;have HO435:=n0_;have HO438:=n1_;have HB:=n2_;clear n0_ n1_ n2_;clear hb ho9;obtain ⟨Ao11,co11,eo11⟩:=Kd.R_slice HO438.out;subst eo11) | ((with_reducible refine gate_builtin (b:=.append) (xs:=#[.tmp 8,.tmp 20]) rfl ?_);at_builtin;refine Kd.R_append_rows (Kd.int .u8) (w0:=w) w.heap.size rfl (.tmp 8) (.tmp 20) 27 5 (.int .u8 0) 1 rfl Try.underlying27 info5 rfl (by decide) (by omega) v434 y433 y436 _ _ _ (fun k_=>some k_ ≠ (.slice Ao11 y436.length co11 : Value).ownBlock) (fun _=>False) rfl rfl ?aO ?aR (fun _ _ h=>h) (fun _ h=>h.elim) ?aF ?aB ?aS ?aL ?_;(case aR=>repeat (first | exact (Kd.R_reads' HO438.out).2.2 | (with_reducible refine cA_ ?_ _) | (with_reducible refine cN_ ?_ _) | (with_reducible refine cD_ ?_)));(case aB=>exact (by exact bZ_ HB));(case aF=>exact (fun k_ hk=>Kd.fresh' (Kd.R_lt (by exact rZ_ HO438)) k_ hk));(case aO=>exact (by (with_reducible repeat (first | apply rA_ | apply rN_ | apply rD_));exact Kd.R_mono HO435.out (fun _ hk=>hk.2)));(case aS=>exact (bS_ (by exact bZ_ HB)));(case aL=>have:=LMc4.out;omega);intro v440 w10 ho hb hg hat;rw [← Ny439.out] at ho;have n0_:=aM_ (Kd.R_after (ok:=(fun _=>True)) (by exact rZ_ HO438) hg hat);have n1_:=aM_ (hb);have n2_:=aM_ (ho);clear HO438;clear HB;clear HO435;have HO438:=n0_;have HB:=n1_;have HO441:=n2_;clear n0_ n1_ n2_;clear ho hb hg hat))
   go_ret
   exact ⟨_,by first | rfl | (simp [errW_none,errW_some] <;> rfl) | (simp [*, errW_none,errW_some] <;> rfl),by (with_reducible repeat (first | apply rA_ | apply rN_ | apply rD_));exact Kd.R_mono HO441.out (fun _ hk=>trivial),by exact bZ_ HB⟩
  ·rw [if_neg c4] at H
   exact absurd H (by simp)
 ·rw [if_neg c3] at H
  exact absurd H (by simp)
mutual
def spec_EncodeRow.l0 : Nat → List (S116) → List Int → Int → Option (List Int)
 | 0,_,_,_=>none
 | k + 1,x1,x5,x6=>if x6 < (x1.length : Int) then (if 0 ≤ x6 then ((spec_PutU.f k x5 ((rd_T116 x1 x6).f0)).bind fun t457=>(if ((rd_T116 x1 x6).f0) = 1 then (spec_EncodeRow.j1 k x1 t457 x6 ((rd_T116 x1 x6).f0) (((rd_T116 x1 x6).f0) == 1) ((rd_T116 x1 x6).f0) ((rd_T116 x1 x6).f1) ((rd_T116 x1 x6).f2)) else (spec_EncodeRow.j1 k x1 t457 x6 ((rd_T116 x1 x6).f0) (((rd_T116 x1 x6).f0) == 2) ((rd_T116 x1 x6).f0) ((rd_T116 x1 x6).f1) ((rd_T116 x1 x6).f2)))) else (none)) else ((spec_PutSum.f k x5).bind fun t452=>(some t452))
def spec_EncodeRow.j1 : Nat → List (S116) → List Int → Int → Int → Bool → Int → Int → ByteArray → Option (List Int)
 | 0,_,_,_,_,_,_,_,_=>none
 | k + 1,x1,x5,x6,x32,x33,x457000,x457001,x457002=>if x33 = true then ((spec_PutVar.f k x5 x457001).bind fun t460=>(spec_EncodeRow.l0 k x1 t460 (wrap64 (x6 + 1)))) else (if x32 = 3 then ((spec_PutText.f k x5 x457002).bind fun t463=>(spec_EncodeRow.l0 k x1 t463 (wrap64 (x6 + 1)))) else (if x32 = 4 then (if x5.length < 140737488355328 then (spec_EncodeRow.l0 k x1 (x5 ++ [(x457001) % 256]) (wrap64 (x6 + 1))) else (none)) else (spec_EncodeRow.l0 k x1 x5 (wrap64 (x6 + 1)))))
end
def spec_EncodeRow.f (k : Nat) (l0 : List (S119)) (l1 : List (S116)) : Option (List Int):=(spec_RowOk.f k l0 l1).bind fun t442=>(if t442 = true then ((spec_PutU.f k (([] : List Int)) (l1.length : Int)).bind fun t449=>(spec_EncodeRow.l0 k l1 t449 0)) else (some (([] : List Int))))
theorem spec_EncodeRow.mono_l : ∀ k,(∀ y0 y1 y2,LeO (spec_EncodeRow.l0 k y0 y1 y2) (spec_EncodeRow.l0 (k + 1) y0 y1 y2)) ∧ (∀ y0 y1 y2 y3 y4 y5 y6 y7,LeO (spec_EncodeRow.j1 k y0 y1 y2 y3 y4 y5 y6 y7) (spec_EncodeRow.j1 (k + 1) y0 y1 y2 y3 y4 y5 y6 y7))
 | 0=>⟨fun _ _ _ r h=>by simp [spec_EncodeRow.l0] at h,fun _ _ _ _ _ _ _ _ r h=>by simp [spec_EncodeRow.j1] at h⟩
 | k + 1=>by
  obtain ⟨ih0,ih1⟩:=spec_EncodeRow.mono_l k
  refine ⟨?_,?_⟩
  ·intro y0 y1 y2
   unfold spec_EncodeRow.l0
   repeat' first
   | (with_reducible exact ih0 _ _ _)
   | (with_reducible exact ih1 _ _ _ _ _ _ _ _)
   | (with_reducible exact spec_PutSum.mono _ _)
   | (with_reducible exact spec_PutText.mono _ _ _)
   | (with_reducible exact spec_PutU.mono _ _ _)
   | (with_reducible exact spec_PutVar.mono _ _ _)
   | (with_reducible exact spec_RowOk.mono _ _ _)
   | (with_reducible exact LeO.refl _)
   | (with_reducible exact LeO.none _)
   | (with_reducible refine LeO.ite ?_ ?_)
   | (with_reducible refine LeO.bind ?_ (fun _=>?_))
   | exact ih0 _ _ _
   | exact ih1 _ _ _ _ _ _ _ _
   | exact spec_PutSum.mono _ _
   | exact spec_PutText.mono _ _ _
   | exact spec_PutU.mono _ _ _
   | exact spec_PutVar.mono _ _ _
   | exact spec_RowOk.mono _ _ _
   | exact LeO.none _
   | refine LeO.ite ?_ ?_
   | refine LeO.bind ?_ (fun _=>?_)
  ·intro y0 y1 y2 y3 y4 y5 y6 y7
   unfold spec_EncodeRow.j1
   repeat' first
   | (with_reducible exact ih0 _ _ _)
   | (with_reducible exact ih1 _ _ _ _ _ _ _ _)
   | (with_reducible exact spec_PutSum.mono _ _)
   | (with_reducible exact spec_PutText.mono _ _ _)
   | (with_reducible exact spec_PutU.mono _ _ _)
   | (with_reducible exact spec_PutVar.mono _ _ _)
   | (with_reducible exact spec_RowOk.mono _ _ _)
   | (with_reducible exact LeO.refl _)
   | (with_reducible exact LeO.none _)
   | (with_reducible refine LeO.ite ?_ ?_)
   | (with_reducible refine LeO.bind ?_ (fun _=>?_))
   | exact ih0 _ _ _
   | exact ih1 _ _ _ _ _ _ _ _
   | exact spec_PutSum.mono _ _
   | exact spec_PutText.mono _ _ _
   | exact spec_PutU.mono _ _ _
   | exact spec_PutVar.mono _ _ _
   | exact spec_RowOk.mono _ _ _
   | exact LeO.none _
   | refine LeO.ite ?_ ?_
   | refine LeO.bind ?_ (fun _=>?_)
theorem spec_EncodeRow.mono : ∀ a0 a1 k,LeO (spec_EncodeRow.f k a0 a1) (spec_EncodeRow.f (k + 1) a0 a1):=by
 intro a0 a1 k
 obtain ⟨ih0,ih1⟩:=spec_EncodeRow.mono_l k
 unfold spec_EncodeRow.f
 repeat' first
   | (with_reducible exact ih0 _ _ _)
   | (with_reducible exact ih1 _ _ _ _ _ _ _ _)
   | (with_reducible exact spec_PutSum.mono _ _)
   | (with_reducible exact spec_PutText.mono _ _ _)
   | (with_reducible exact spec_PutU.mono _ _ _)
   | (with_reducible exact spec_PutVar.mono _ _ _)
   | (with_reducible exact spec_RowOk.mono _ _ _)
   | (with_reducible exact LeO.refl _)
   | (with_reducible exact LeO.none _)
   | (with_reducible refine LeO.ite ?_ ?_)
   | (with_reducible refine LeO.bind ?_ (fun _=>?_))
   | exact ih0 _ _ _
   | exact ih1 _ _ _ _ _ _ _ _
   | exact spec_PutSum.mono _ _
   | exact spec_PutText.mono _ _ _
   | exact spec_PutU.mono _ _ _
   | exact spec_PutVar.mono _ _ _
   | exact spec_RowOk.mono _ _ _
   | exact LeO.none _
   | refine LeO.ite ?_ ?_
   | refine LeO.bind ?_ (fun _=>?_)
set_option maxHeartbeats 8000000 in
set_option maxRecDepth 100000 in
theorem spec_EncodeRow.calls (k : Nat) (A0 : Option Addr) (c0 : Nat) (l0 : List (S119)) (A1 : Option Addr) (c1 : Nat) (l1 : List (S116)) (r : List Int) (w : World) (hr0 : Kd.C k119 w A0 l0.length l0) (hc0 : l0.length ≤ c0) (hr1 : Kd.C k116 w A1 l1.length l1) (hc1 : l1.length ≤ c1) (h : spec_EncodeRow.f k l0 l1 = some r) :
  Calls Try.prog 36 #[.slice A0 l0.length c0,.slice A1 l1.length c1] w fun e w'=>∃ v0_ : Value,e = .returned (v0_) ∧ Kd.R (Kd.int .u8) 5 w' w.heap.size (fun _=>True) v0_ r ∧ Below w.heap.size w w':=by
 have hu116:=Try.underlying116
 have HR0:=aM_ hr0
 have HC0:=aM_ hc0
 clear hr0 hc0
 have HR1:=aM_ hr1
 have HC1:=aM_ hc1
 clear hr1 hc1
 have HB:=aM_ (Below.refl w.heap.size w)
 have H : ((spec_RowOk.f k l0 l1).bind fun t442=>(if t442 = true then ((spec_PutU.f k (([] : List Int)) (l1.length : Int)).bind fun t449=>(spec_EncodeRow.l0 k l1 t449 0)) else (some (([] : List Int))))) = some r:=h
 clear h
 replace H:=oB_ H
 obtain ⟨t442,A30,H⟩:=H
 replace H : (if t442 = true then ((spec_PutU.f k (([] : List Int)) (l1.length : Int)).bind fun t449=>(spec_EncodeRow.l0 k l1 t449 0)) else (some (([] : List Int)))) = some r:=H
 have A3:=aM_ A30
 clear A30
 by_cases c4 : t442 = true
 ·subst c4
  have H1 : ((spec_PutU.f k (([] : List Int)) (l1.length : Int)).bind fun t449=>(spec_EncodeRow.l0 k l1 t449 0)) = some r:=by rw [if_pos rfl] at H;exact H
  clear H
  have H:=H1
  clear H1
  obtain ⟨y446,hy446⟩ : ∃ y_ : List Int,y_ = (([] : List Int)):=⟨_,rfl⟩
  replace H : ((spec_PutU.f k y446 (l1.length : Int)).bind fun t449=>(spec_EncodeRow.l0 k l1 t449 0)) = some r:=by first | (rw [hy446];with_reducible exact H) | (have H2_:=(Option.bind_some _ _).symm.trans H;rw [hy446];with_reducible exact H2_) | (have H2_:=(Option.bind_some _ _).symm.trans H;with_reducible exact H2_) | with_reducible exact H | (rw [hy446];exact H) | exact H
  have Ny446:=aM_ hy446
  clear hy446
  replace H:=oB_ H
  obtain ⟨t449,A50,H⟩:=H
  replace H : (spec_EncodeRow.l0 k l1 t449 0) = some r:=H
  have A5:=aM_ A50
  clear A50
  have H':=aM_ H
  clear H
  go_enter Try.func36,Try.ntmps36
  go_wp2_with (first | ((with_reducible refine gate_callee (f:=45) rfl ?_);refine goesL_ (some 10) rfl rfl Try.func45 (by kernel_rfl) rfl #[.slice A0 l0.length c0,.slice A1 l1.length c1] rfl (by (try simp only [mA_,mC_,mN_]);first | done | rfl | (simp only [lD_,lT_];rfl)) ?_;(with_reducible refine (spec_RowOk.calls k _ _ l0 _ _ l1 true _ ?side1 ?side2 ?side3 ?side4 A3.out).mono ?_);(case side1=>repeat (first | exact HR0.out | (with_reducible refine cA_ ?_ _) | (with_reducible refine cN_ ?_ _) | (with_reducible refine cD_ ?_)));(case side2=>exact HC0.out);(case side3=>repeat (first | exact HR1.out | (with_reducible refine cA_ ?_ _) | (with_reducible refine cN_ ?_ _) | (with_reducible refine cD_ ?_)));(case side4=>exact HC1.out);rintro e w6 ⟨rfl,hb⟩;refine ⟨_,rfl,?_⟩;have n0_:=aM_ (bT_ (by exact bZ_ HB) hb);clear HB;have HB:=n0_;clear n0_;(try clear hb);(try clear hb2);(try clear hk);(try clear hi)) | ((with_reducible refine gate_dst (N:=13) rfl ?_);refine Kd.R_lit (Kd.int .u8) _ 5 ?hg (N:=13) ?hd (xs:=([] : List Int)) (inner:=[]) (ok:=fun _=>True) (okp:=fun _=>True) ?hr ?hp (fun _ hk=>hk) trivial (Below.refl _ _) (Nat.le_refl _) (by simp) ?_;(case hd=>rfl);(case hg=>rfl);(case hr=>first | (go_simp;done) | (go_simp;rfl));(case hp=>exact (Reps.none _ _));intro v447 w7 ho8 hb hg_ hnew_;clear hg_ hnew_;(first | rw [← Ny446.out] at ho8 | (simp only [Int.reduceToNat] at ho8;rw [← Ny446.out] at ho8));have n0_:=aM_ (Kd.R_lower ho8 (bS_ (by exact bZ_ HB)));have n1_:=aM_ (bT_ (by exact bZ_ HB) hb);clear HB;have HO448:=n0_;have HB:=n1_;clear n0_ n1_;clear hb ho8;obtain ⟨Ao9,co9,eo9⟩:=Kd.R_slice HO448.out;subst eo9) | ((with_reducible refine gate_callee (f:=93) rfl ?_);refine goesL_ (some 16) rfl rfl Try.func93 (by kernel_rfl) rfl #[.slice Ao9 y446.length co9,.int .i64 (l1.length : Int)] rfl (by (try simp only [mA_,mC_,mN_]);first | done | rfl | (simp only [lD_,lT_];rfl)) ?_;(with_reducible refine (spec_PutU.calls k _ _ y446 (l1.length : Int) t449 _ ?side1 ?side2 A5.out).mono ?_);(case side1=>repeat (first | exact (Kd.R_reads' HO448.out).2.2 | (with_reducible refine cA_ ?_ _) | (with_reducible refine cN_ ?_ _) | (with_reducible refine cD_ ?_)));(case side2=>exact (Kd.R_reads' HO448.out).2.1);rintro e w10 ⟨v450,rfl,ho0,hb⟩;refine ⟨_,rfl,?_⟩;have n0_:=aM_ (Kd.R_elder' (by exact rZ_ HO448) (Kd.R_base ho0) hb);have n1_:=aM_ (Kd.R_lower (Kd.R_new' ho0 (Kd.R_lt (by exact rZ_ HO448))) (bS_ (by exact bZ_ HB)));have n2_:=aM_ (bT_ (by exact bZ_ HB) hb);clear HO448;clear HB;have HO448:=n0_;have HO451:=n1_;have HB:=n2_;clear n0_ n1_ n2_;(try clear hb);(try clear hb2);(try clear hk);(try clear hi);(try clear ho0)))
  (try simp only [Act.put,sI_,sS_,sZ_])
  go_loopg [5,6] k (fun kq v5 v6 w'=>∃ (x5_1 : List Int) (x6_1 : Int),v6 = .int .i64 x6_1 ∧ Aside0 (spec_EncodeRow.l0 kq l1 x5_1 x6_1 = some r) ∧ Aside0 (kq ≤ k) ∧ Aside0 (Kd.R (Kd.int .u8) 5 w' w.heap.size (fun _=>True) v5 x5_1) ∧ Aside0 (Below w.heap.size w w'))
  case atStart=>exact ⟨(t449),(0),(by first | rfl | (simp;done) | (simp [*];done)),H', ⟨Nat.le_refl _⟩,⟨by (with_reducible repeat (first | apply rA_ | apply rN_ | apply rD_));exact Kd.R_mono HO451.out (fun _ hk=>trivial)⟩,⟨by exact bZ_ HB⟩⟩
  case round =>
   clear H'
   try clear c1
   try clear p2
   try clear c3
   try clear c4
   try clear c9
   obtain ⟨x5_1,x6_1,rfl,HA,HK1,HO_5,HB⟩:=hrel
   cases gk with
   | zero=>exact absurd HA.out (by simp [spec_EncodeRow.l0])
   | succ k1 =>
    have H:=HA.out
    clear HA
    simp only [spec_EncodeRow.l0] at H
    by_cases c11 : x6_1 < (l1.length : Int)
    ·rw [if_pos c11] at H
     have c11b0 : decide (x6_1 < (l1.length : Int)) = true:=decide_eq_true c11
     clear c11
     by_cases c12 : 0 ≤ x6_1
     ·rw [if_pos c12] at H
      have c12b0 : decide (0 ≤ x6_1) = true:=decide_eq_true c12
      clear c12
      replace H:=oB_ H
      obtain ⟨t457,A130,H⟩:=H
      replace H : (if ((rd_T116 l1 x6_1).f0) = 1 then (spec_EncodeRow.j1 k1 l1 t457 x6_1 ((rd_T116 l1 x6_1).f0) (((rd_T116 l1 x6_1).f0) == 1) ((rd_T116 l1 x6_1).f0) ((rd_T116 l1 x6_1).f1) ((rd_T116 l1 x6_1).f2)) else (spec_EncodeRow.j1 k1 l1 t457 x6_1 ((rd_T116 l1 x6_1).f0) (((rd_T116 l1 x6_1).f0) == 2) ((rd_T116 l1 x6_1).f0) ((rd_T116 l1 x6_1).f1) ((rd_T116 l1 x6_1).f2))) = some r:=H
      have A13:=aM_ A130
      clear A130
      have HC14:=aM_ H
      clear H
      have p455 : 0 ≤ (x6_1 : Int):=oT_ (by first | (with_reducible assumption) | assumption)
      have q455 : x6_1 < (l1.length : Int):=oT_ (by first | (with_reducible assumption) | assumption)
      obtain ⟨ad455,e455,hx455_0,hx455_1,hx455_2⟩:=at_T116 HR1.out x6_1 p455 q455
      cases e455
      replace hx455_0:=(HB.out.cell (wL_ w _ hx455_0)).trans hx455_0
      replace hx455_1:=(HB.out.cell (wL_ w _ hx455_1)).trans hx455_1
      replace hx455_2:=(HB.out.cell (wL_ w _ hx455_2)).trans hx455_2
      replace p455:=eq_true p455
      replace q455:=eq_true q455
      go_upto_if 33 with (first | ((with_reducible refine gate_dst (N:=7) rfl ?_);refine box_event ?hg (N:=7) ?hd (cs:=#[.int .i64 0,.int .i64 0,.string (⟨#[]⟩ : ByteArray)]) (t:=116) ?hr ?_;(case hd=>rfl);(case hg=>rfl);(case hr=>first | (go_simp;done) | (go_simp;rfl));intro gb456 hg w15 hbox hb;have n0_:=aM_ (Kd.R_below (by exact rZ_ HO_5) hb);have n1_:=aM_ (bT_ (by exact bZ_ HB) hb);have n2_:=aM_ (hbox);have n3_:=aM_ ((by rw [hg];exact (bS_ (by exact bZ_ HB)) : w.heap.size ≤ gb456));have n4_:=aM_ ((by rw [hg];exact (bS_ (by exact bZ_ HB)) : w.heap.size ≤ gb456));clear HO_5;clear HB;have HO_5:=n0_;have HB:=n1_;have BK456:=n2_;have GW456:=n3_;have GE456:=n4_;clear n0_ n1_ n2_ n3_ n4_;clear hb hbox hg;have hcz16_0 : w15.cell? ⟨gb456,0,none⟩ = some (.int .i64 0):=(kC_ BK456.out 0).trans rfl;have hcz16_1 : w15.cell? ⟨gb456,1,none⟩ = some (.int .i64 0):=(kC_ BK456.out 1).trans rfl;have hcz16_2 : w15.cell? ⟨gb456,2,none⟩ = some (.string (⟨#[]⟩ : ByteArray)):=(kC_ BK456.out 2).trans rfl;have hfz16_0:=kF_ BK456.out 0;have hfz16_1:=kF_ BK456.out 1;have hfz16_2:=kF_ BK456.out 2;obtain ⟨Ao17,co17,eo17⟩:=Kd.R_slice HO_5.out;subst eo17) | ((with_reducible refine gate_callee (f:=93) rfl ?_);refine goesL_ (some 30) rfl rfl Try.func93 (by kernel_rfl) rfl #[.slice Ao17 x5_1.length co17,.int .i64 ((rd_T116 l1 x6_1).f0)] rfl (by (try simp only [mA_,mC_,mN_]);first | done | rfl | (simp only [lD_,lT_];rfl)) ?_;(with_reducible refine (spec_PutU.calls k1 _ _ x5_1 ((rd_T116 l1 x6_1).f0) t457 _ ?side1 ?side2 A13.out).mono ?_);(case side1=>refine (Kd.R_reads' (e:=5) (base:=w.heap.size) (ok:=fun k_=>True) (n:=x5_1.length) (c:=co17) ?_).2.2;exact (by (with_reducible repeat (first | apply rA_ | apply rN_ | apply rD_));exact (Kd.R_mono (Kd.R_far (p:=⟨gb456,2,none⟩) (Kd.R_far (p:=⟨gb456,1,none⟩) (Kd.R_far (p:=⟨gb456,0,none⟩) (Kd.R_types HO_5.out BK456.out (by decide)) (fun _ hk=>hk.2) (.int .i64 ((rd_T116 l1 x6_1).f0))) (fun _ hk=>hk.2) (.int .i64 ((rd_T116 l1 x6_1).f1))) (fun _ hk=>hk.2) (.string ((rd_T116 l1 x6_1).f2))) (fun _ h_=>h_.1))));(case side2=>exact (Kd.R_reads' HO_5.out).2.1);rintro e w18 ⟨v458,rfl,ho0,hb⟩;refine ⟨_,rfl,?_⟩;have n0_:=aM_ (Kd.R_elder' (by (with_reducible repeat (first | apply rA_ | apply rN_ | apply rD_));exact (Kd.R_mono (Kd.R_far (p:=⟨gb456,2,none⟩) (Kd.R_far (p:=⟨gb456,1,none⟩) (Kd.R_far (p:=⟨gb456,0,none⟩) (Kd.R_types HO_5.out BK456.out (by decide)) (fun _ hk=>hk.2) (.int .i64 ((rd_T116 l1 x6_1).f0))) (fun _ hk=>hk.2) (.int .i64 ((rd_T116 l1 x6_1).f1))) (fun _ hk=>hk.2) (.string ((rd_T116 l1 x6_1).f2))) (fun _ h_=>h_.1))) (Kd.R_base ho0) hb);have n1_:=aM_ (Kd.R_lower (Kd.R_new' ho0 (Kd.R_lt (by (with_reducible repeat (first | apply rA_ | apply rN_ | apply rD_));exact (Kd.R_mono (Kd.R_far (p:=⟨gb456,2,none⟩) (Kd.R_far (p:=⟨gb456,1,none⟩) (Kd.R_far (p:=⟨gb456,0,none⟩) (Kd.R_types HO_5.out BK456.out (by decide)) (fun _ hk=>hk.2) (.int .i64 ((rd_T116 l1 x6_1).f0))) (fun _ hk=>hk.2) (.int .i64 ((rd_T116 l1 x6_1).f1))) (fun _ hk=>hk.2) (.string ((rd_T116 l1 x6_1).f2))) (fun _ h_=>h_.1))))) (bS_ (by exact bZ_ HB)));have n2_:=aM_ (blk_below (g:=gb456) (o:=.cells #[.int .i64 ((rd_T116 l1 x6_1).f0),.int .i64 ((rd_T116 l1 x6_1).f1),.string ((rd_T116 l1 x6_1).f2)] 116 (0,0)) (by (with_reducible repeat (first | refine kN_ ?_ _ | refine kD_ ?_ | refine kA_ ?_ _));refine kP_ (cs:=#[.int .i64 ((rd_T116 l1 x6_1).f0),.int .i64 ((rd_T116 l1 x6_1).f1),.string (⟨#[]⟩ : ByteArray)]) ?_ 2 _ rfl;(with_reducible repeat (first | refine kN_ ?_ _ | refine kD_ ?_ | refine kA_ ?_ _));refine kP_ (cs:=#[.int .i64 ((rd_T116 l1 x6_1).f0),.int .i64 0,.string (⟨#[]⟩ : ByteArray)]) ?_ 1 _ rfl;(with_reducible repeat (first | refine kN_ ?_ _ | refine kD_ ?_ | refine kA_ ?_ _));refine kP_ (cs:=#[.int .i64 0,.int .i64 0,.string (⟨#[]⟩ : ByteArray)]) ?_ 0 _ rfl;exact kZ_ BK456) hb);have n3_:=aM_ (bT_ (by exact bZ_ HB) hb);clear HO_5;clear BK456;clear HB;have HO_5:=n0_;have HO459:=n1_;have BK456:=n2_;have HB:=n3_;clear n0_ n1_ n2_ n3_;(try clear hb);(try clear hb2);(try clear hk);(try clear hi);(try clear ho0);have hcz19_0 : w18.cell? ⟨gb456,0,none⟩ = some (.int .i64 ((rd_T116 l1 x6_1).f0)):=(kC_ BK456.out 0).trans rfl;have hcz19_1 : w18.cell? ⟨gb456,1,none⟩ = some (.int .i64 ((rd_T116 l1 x6_1).f1)):=(kC_ BK456.out 1).trans rfl;have hcz19_2 : w18.cell? ⟨gb456,2,none⟩ = some (.string ((rd_T116 l1 x6_1).f2)):=(kC_ BK456.out 2).trans rfl;have hfz19_0:=kF_ BK456.out 0;have hfz19_1:=kF_ BK456.out 1;have hfz19_2:=kF_ BK456.out 2))
      (try simp only [Act.put,sI_,sZ_,sS_])
      go_cut [33] (fun v33 wc=>∃ (kq : Nat) (x33_13 : Bool),v33 = .bool x33_13 ∧ Aside0 (spec_EncodeRow.j1 kq l1 t457 x6_1 ((rd_T116 l1 x6_1).f0) x33_13 ((rd_T116 l1 x6_1).f0) ((rd_T116 l1 x6_1).f1) ((rd_T116 l1 x6_1).f2) = some r) ∧ Aside0 (kq ≤ k1) ∧ Aside0 (Kd.R (Kd.int .u8) 5 wc w.heap.size (fun _=>True) v458 t457) ∧ Aside0 (wc.heap[gb456]? = some (.cells #[.int .i64 ((rd_T116 l1 x6_1).f0),.int .i64 ((rd_T116 l1 x6_1).f1),.string ((rd_T116 l1 x6_1).f2)] 116 (0,0))) ∧ Aside0 (Below w.heap.size w wc))
      case first =>
       have H:=HC14.out
       clear HC14
       by_cases c20 : ((rd_T116 l1 x6_1).f0) = 1
       ·rw [if_pos c20] at H
        have c20b0 : (((rd_T116 l1 x6_1).f0) == 1) = true:=beq_iff_eq.mpr c20
        have c20b1 : (((rd_T116 l1 x6_1).f0) != 1) = false:=bne_eq_false_iff_eq.mpr c20
        clear c20
        (first | rw [c20b0] | (simp only [i64_w,i32_w];rw [c20b0]) | skip)
        have H':=aM_ H
        clear H
        go_wp2
        (first | go_meet | (refine Met.intro ?_;go_step;(repeat apply Exists.intro);refine ⟨?rel,?eq⟩;(case eq=>(try simp only [c10b0]);(try simp only [c10b0]);(try simp only [c20b0]);rfl)))
        case rel=>exact ⟨_,((((rd_T116 l1 x6_1).f0) == 1)),(by first | rfl | (simp;done) | (simp [*];done)),H', ⟨by have:=HK1.out;first | omega | exact Nat.le_refl _⟩,⟨by (with_reducible repeat (first | apply rA_ | apply rN_ | apply rD_));exact Kd.R_mono HO459.out (fun _ hk=>trivial)⟩,⟨by exact kZ_ BK456⟩,⟨by exact bZ_ HB⟩⟩
       ·rw [if_neg c20] at H
        have c20b0 : (((rd_T116 l1 x6_1).f0) == 1) = false:=beq_eq_false_iff_ne.mpr c20
        have c20b1 : (((rd_T116 l1 x6_1).f0) != 1) = true:=bne_iff_ne.mpr c20
        (first | rw [c20b0] | (simp only [i64_w,i32_w];rw [c20b0]) | skip)
        have H':=aM_ H
        clear H
        go_wp2
        (first | go_meet | (refine Met.intro ?_;go_step;(repeat apply Exists.intro);refine ⟨?rel,?eq⟩;(case eq=>(try simp only [c10b0]);(try simp only [c20b0]);(try simp only [c20b0]);rfl)))
        case rel=>exact ⟨_,((((rd_T116 l1 x6_1).f0) == 2)),(by first | rfl | (simp;done) | (simp [*];done)),H', ⟨by have:=HK1.out;first | omega | exact Nat.le_refl _⟩,⟨by (with_reducible repeat (first | apply rA_ | apply rN_ | apply rD_));exact Kd.R_mono HO459.out (fun _ hk=>trivial)⟩,⟨by exact kZ_ BK456⟩,⟨by exact bZ_ HB⟩⟩
      case rest =>
       clear HC14
       try clear c1
       try clear c2
       try clear p2
       try clear c3
       try clear c4
       try clear p4
       try clear q4
       try clear hx4
       try clear c9
       try clear c10
       try clear c10b0
       try clear c11
       try clear c11b0
       try clear c12
       try clear c12b0
       try clear c20
       try clear c20b0
       try clear c20b1
       try clear hcz16_0
       try clear hcz16_1
       try clear hcz16_2
       try clear hcz19_0
       try clear hcz19_1
       try clear hcz19_2
       try clear hfz16_0
       try clear hfz16_1
       try clear hfz16_2
       try clear hfz19_0
       try clear hfz19_1
       try clear hfz19_2
       try clear hx455_0
       try clear hx455_1
       try clear hx455_2
       try clear p2
       try clear p455
       try clear q455
       obtain ⟨kq,x33_13,rfl,HA,HJ13,HO_5,BK456,HB⟩:=hcut
       cases kq with
       | zero=>exact absurd HA.out (by simp [spec_EncodeRow.j1])
       | succ kj13 =>
        have H:=HA.out
        clear HA
        simp only [spec_EncodeRow.j1] at H
        by_cases c21 : x33_13 = true
        ·subst c21
         have H1 : ((spec_PutVar.f kj13 t457 ((rd_T116 l1 x6_1).f1)).bind fun t460=>(spec_EncodeRow.l0 kj13 l1 t460 (wrap64 (x6_1 + 1)))) = some r:=by rw [if_pos rfl] at H;exact H
         clear H
         have H:=H1
         clear H1
         replace H:=oB_ H
         obtain ⟨t460,A220,H⟩:=H
         replace H : (spec_EncodeRow.l0 kj13 l1 t460 (wrap64 (x6_1 + 1))) = some r:=H
         have A22:=aM_ A220
         clear A220
         have H':=aM_ H
         clear H
         have hcz23_0 : wc.cell? ⟨gb456,0,none⟩ = some (.int .i64 ((rd_T116 l1 x6_1).f0)):=(kC_ BK456.out 0).trans rfl
         have hcz23_1 : wc.cell? ⟨gb456,1,none⟩ = some (.int .i64 ((rd_T116 l1 x6_1).f1)):=(kC_ BK456.out 1).trans rfl
         have hcz23_2 : wc.cell? ⟨gb456,2,none⟩ = some (.string ((rd_T116 l1 x6_1).f2)):=(kC_ BK456.out 2).trans rfl
         have hfz23_0:=kF_ BK456.out 0
         have hfz23_1:=kF_ BK456.out 1
         have hfz23_2:=kF_ BK456.out 2
         obtain ⟨Ao24,co24,eo24⟩:=Kd.R_slice HO_5.out
         subst eo24
         go_wp2_with (first | ((with_reducible refine gate_callee (f:=94) rfl ?_);refine goesL_ (some 39) rfl rfl Try.func94 (by kernel_rfl) rfl #[.slice Ao24 t457.length co24,.int .i64 ((rd_T116 l1 x6_1).f1)] rfl (by (try simp only [mA_,mC_,mN_]);first | done | rfl | (simp only [lD_,lT_];rfl)) ?_;(with_reducible refine (spec_PutVar.calls kj13 _ _ t457 ((rd_T116 l1 x6_1).f1) t460 _ ?side1 ?side2 A22.out).mono ?_);(case side1=>repeat (first | exact (Kd.R_reads' HO_5.out).2.2 | (with_reducible refine cA_ ?_ _) | (with_reducible refine cN_ ?_ _) | (with_reducible refine cD_ ?_)));(case side2=>exact (Kd.R_reads' HO_5.out).2.1);rintro e w25 ⟨v461,rfl,ho0,hb⟩;refine ⟨_,rfl,?_⟩;have n0_:=aM_ (Kd.R_elder' (by exact rZ_ HO_5) (Kd.R_base ho0) hb);have n1_:=aM_ (Kd.R_lower (Kd.R_new' ho0 (Kd.R_lt (by exact rZ_ HO_5))) (bS_ (by exact bZ_ HB)));have n2_:=aM_ (blk_below (g:=gb456) (o:=.cells #[.int .i64 ((rd_T116 l1 x6_1).f0),.int .i64 ((rd_T116 l1 x6_1).f1),.string ((rd_T116 l1 x6_1).f2)] 116 (0,0)) (by exact kZ_ BK456) hb);have n3_:=aM_ (bT_ (by exact bZ_ HB) hb);clear HO_5;clear BK456;clear HB;have HO_5:=n0_;have HO462:=n1_;have BK456:=n2_;have HB:=n3_;clear n0_ n1_ n2_ n3_;(try clear hb);(try clear hb2);(try clear hk);(try clear hi);(try clear ho0)))
         go_roundg kj13
         case measure=>have:=HK1.out;have:=HJ13.out;omega
         case rel=>exact ⟨(t460),(wrap64 (x6_1 + 1)),(by first | rfl | (simp;done) | (simp [*];done)),H', ⟨by have:=HK1.out;have:=HJ13.out;omega⟩,⟨by (with_reducible repeat (first | apply rA_ | apply rN_ | apply rD_));exact Kd.R_mono HO462.out (fun _ hk=>trivial)⟩,⟨by exact bZ_ HB⟩⟩
        ·replace c21:=Bool.eq_false_iff.mpr c21
         subst c21
         have H1 : (if ((rd_T116 l1 x6_1).f0) = 3 then ((spec_PutText.f kj13 t457 ((rd_T116 l1 x6_1).f2)).bind fun t463=>(spec_EncodeRow.l0 kj13 l1 t463 (wrap64 (x6_1 + 1)))) else (if ((rd_T116 l1 x6_1).f0) = 4 then (if t457.length < 140737488355328 then (spec_EncodeRow.l0 kj13 l1 (t457 ++ [(((rd_T116 l1 x6_1).f1)) % 256]) (wrap64 (x6_1 + 1))) else (none)) else (spec_EncodeRow.l0 kj13 l1 t457 (wrap64 (x6_1 + 1))))) = some r:=by rw [if_neg (show ¬ (false = true) by decide)] at H;exact H
         clear H
         have H:=H1
         clear H1
         by_cases c26 : ((rd_T116 l1 x6_1).f0) = 3
         ·rw [if_pos c26] at H
          have c26b0 : (((rd_T116 l1 x6_1).f0) == 3) = true:=beq_iff_eq.mpr c26
          have c26b1 : (((rd_T116 l1 x6_1).f0) != 3) = false:=bne_eq_false_iff_eq.mpr c26
          clear c26
          replace H:=oB_ H
          obtain ⟨t463,A270,H⟩:=H
          replace H : (spec_EncodeRow.l0 kj13 l1 t463 (wrap64 (x6_1 + 1))) = some r:=H
          have A27:=aM_ A270
          clear A270
          have H':=aM_ H
          clear H
          have hcz28_0 : wc.cell? ⟨gb456,0,none⟩ = some (.int .i64 ((rd_T116 l1 x6_1).f0)):=(kC_ BK456.out 0).trans rfl
          have hcz28_1 : wc.cell? ⟨gb456,1,none⟩ = some (.int .i64 ((rd_T116 l1 x6_1).f1)):=(kC_ BK456.out 1).trans rfl
          have hcz28_2 : wc.cell? ⟨gb456,2,none⟩ = some (.string ((rd_T116 l1 x6_1).f2)):=(kC_ BK456.out 2).trans rfl
          have hfz28_0:=kF_ BK456.out 0
          have hfz28_1:=kF_ BK456.out 1
          have hfz28_2:=kF_ BK456.out 2
          obtain ⟨Ao29,co29,eo29⟩:=Kd.R_slice HO_5.out
          subst eo29
          go_wp2_with (first | ((with_reducible refine gate_callee (f:=95) rfl ?_);refine goesL_ (some 45) rfl rfl Try.func95 (by kernel_rfl) rfl #[.slice Ao29 t457.length co29,.string ((rd_T116 l1 x6_1).f2)] rfl (by (try simp only [mA_,mC_,mN_]);first | done | rfl | (simp only [lD_,lT_];rfl)) ?_;(with_reducible refine (spec_PutText.calls kj13 _ _ t457 ((rd_T116 l1 x6_1).f2) t463 _ ?side1 ?side2 A27.out).mono ?_);(case side1=>repeat (first | exact (Kd.R_reads' HO_5.out).2.2 | (with_reducible refine cA_ ?_ _) | (with_reducible refine cN_ ?_ _) | (with_reducible refine cD_ ?_)));(case side2=>exact (Kd.R_reads' HO_5.out).2.1);rintro e w30 ⟨v464,rfl,ho0,hb⟩;refine ⟨_,rfl,?_⟩;have n0_:=aM_ (Kd.R_elder' (by exact rZ_ HO_5) (Kd.R_base ho0) hb);have n1_:=aM_ (Kd.R_lower (Kd.R_new' ho0 (Kd.R_lt (by exact rZ_ HO_5))) (bS_ (by exact bZ_ HB)));have n2_:=aM_ (blk_below (g:=gb456) (o:=.cells #[.int .i64 ((rd_T116 l1 x6_1).f0),.int .i64 ((rd_T116 l1 x6_1).f1),.string ((rd_T116 l1 x6_1).f2)] 116 (0,0)) (by exact kZ_ BK456) hb);have n3_:=aM_ (bT_ (by exact bZ_ HB) hb);clear HO_5;clear BK456;clear HB;have HO_5:=n0_;have HO465:=n1_;have BK456:=n2_;have HB:=n3_;clear n0_ n1_ n2_ n3_;(try clear hb);(try clear hb2);(try clear hk);(try clear hi);(try clear ho0)))
          go_roundg kj13
          case measure=>have:=HK1.out;have:=HJ13.out;omega
          case rel=>exact ⟨(t463),(wrap64 (x6_1 + 1)),(by first | rfl | (simp;done) | (simp [*];done)),H', ⟨by have:=HK1.out;have:=HJ13.out;omega⟩,⟨by (with_reducible repeat (first | apply rA_ | apply rN_ | apply rD_));exact Kd.R_mono HO465.out (fun _ hk=>trivial)⟩,⟨by exact bZ_ HB⟩⟩
         ·rw [if_neg c26] at H
          have c26b0 : (((rd_T116 l1 x6_1).f0) == 3) = false:=beq_eq_false_iff_ne.mpr c26
          have c26b1 : (((rd_T116 l1 x6_1).f0) != 3) = true:=bne_iff_ne.mpr c26
          by_cases c31 : ((rd_T116 l1 x6_1).f0) = 4
          ·rw [if_pos c31] at H
           have c31b0 : (((rd_T116 l1 x6_1).f0) == 4) = true:=beq_iff_eq.mpr c31
           have c31b1 : (((rd_T116 l1 x6_1).f0) != 4) = false:=bne_eq_false_iff_eq.mpr c31
           clear c31
           by_cases c32 : t457.length < 140737488355328
           ·rw [if_pos c32] at H
            have LMc32:=aM_ c32
            clear c32
            obtain ⟨y466,hy466⟩ : ∃ y_ : List Int,y_ = (t457 ++ [(((rd_T116 l1 x6_1).f1)) % 256]):=⟨_,rfl⟩
            replace H : (spec_EncodeRow.l0 kj13 l1 y466 (wrap64 (x6_1 + 1))) = some r:=by first | (rw [hy466];with_reducible exact H) | (have H2_:=(Option.bind_some _ _).symm.trans H;rw [hy466];with_reducible exact H2_) | (have H2_:=(Option.bind_some _ _).symm.trans H;with_reducible exact H2_) | with_reducible exact H | (rw [hy466];exact H) | exact H
            have Ny466:=aM_ hy466
            clear hy466
            have H':=aM_ H
            clear H
            have hcz33_0 : wc.cell? ⟨gb456,0,none⟩ = some (.int .i64 ((rd_T116 l1 x6_1).f0)):=(kC_ BK456.out 0).trans rfl
            have hcz33_1 : wc.cell? ⟨gb456,1,none⟩ = some (.int .i64 ((rd_T116 l1 x6_1).f1)):=(kC_ BK456.out 1).trans rfl
            have hcz33_2 : wc.cell? ⟨gb456,2,none⟩ = some (.string ((rd_T116 l1 x6_1).f2)):=(kC_ BK456.out 2).trans rfl
            have hfz33_0:=kF_ BK456.out 0
            have hfz33_1:=kF_ BK456.out 1
            have hfz33_2:=kF_ BK456.out 2
            go_wp2_with (first | ((with_reducible refine gate_builtin (b:=.append) (xs:=#[.tmp 48,.tmp 52]) rfl ?_);at_builtin;refine Kd.R_append (Kd.int .u8) (w0:=w) w.heap.size rfl (.tmp 48) (.tmp 52) 27 5 (.int .u8 0) 1 rfl Try.underlying27 info5 rfl (by decide) (by omega) v458 t457 ((((rd_T116 l1 x6_1).f1)) % 256) [.int .u8 ((((rd_T116 l1 x6_1).f1)) % 256)] (fun _=>True) (fun _=>False) rfl rfl ?aP (fun _ hk=>hk.elim) ?aF ?aO ?aB ?aS ?aL ?_;(case aP=>exact rfl);(case aB=>exact (by exact bZ_ HB));(case aF=>exact (fun _ _=>trivial));(case aO=>exact (by exact rZ_ HO_5));(case aS=>exact (bS_ (by exact bZ_ HB)));(case aL=>have:=LMc32.out;omega);intro v467 w34 ho hb hg hat;rw [← Ny466.out] at ho;have n0_:=aM_ (blk_grown (g:=gb456) (o:=.cells #[.int .i64 ((rd_T116 l1 x6_1).f0),.int .i64 ((rd_T116 l1 x6_1).f1),.string ((rd_T116 l1 x6_1).f2)] 116 (0,0)) (by exact kZ_ BK456) hg (Kd.R_ne HO_5.out BK456.out (by decide)));have n1_:=aM_ (hb);have n2_:=aM_ (ho);clear BK456;clear HB;clear HO_5;have BK456:=n0_;have HB:=n1_;have HO468:=n2_;clear n0_ n1_ n2_;clear ho hb hg hat))
            go_roundg kj13
            case measure=>have:=HK1.out;have:=HJ13.out;omega
            case rel=>exact ⟨(y466),(wrap64 (x6_1 + 1)),(by first | rfl | (simp;done) | (simp [*];done)),H', ⟨by have:=HK1.out;have:=HJ13.out;omega⟩,⟨by exact rZ_ HO468⟩,⟨by exact bZ_ HB⟩⟩
           ·rw [if_neg c32] at H
            exact absurd H (by simp)
          ·rw [if_neg c31] at H
           have c31b0 : (((rd_T116 l1 x6_1).f0) == 4) = false:=beq_eq_false_iff_ne.mpr c31
           have c31b1 : (((rd_T116 l1 x6_1).f0) != 4) = true:=bne_iff_ne.mpr c31
           have H':=aM_ H
           clear H
           go_wp2
           go_roundg kj13
           case measure=>have:=HK1.out;have:=HJ13.out;omega
           case rel=>exact ⟨(t457),(wrap64 (x6_1 + 1)),(by first | rfl | (simp;done) | (simp [*];done)),H', ⟨by have:=HK1.out;have:=HJ13.out;omega⟩,⟨by exact rZ_ HO_5⟩,⟨by exact bZ_ HB⟩⟩
     ·rw [if_neg c12] at H
      exact absurd H (by simp)
    ·rw [if_neg c11] at H
     have c11b0 : decide (x6_1 < (l1.length : Int)) = false:=decide_eq_false c11
     clear c11
     replace H:=oB_ H
     obtain ⟨t452,A350,H⟩:=H
     replace H : (some t452) = some r:=H
     have A35:=aM_ A350
     clear A350
     obtain rfl:=Option.some.inj H
     obtain ⟨Ao36,co36,eo36⟩:=Kd.R_slice HO_5.out
     subst eo36
     go_wp2_with (first | ((with_reducible refine gate_callee (f:=96) rfl ?_);refine goesL_ (some 55) rfl rfl Try.func96 (by kernel_rfl) rfl #[.slice Ao36 x5_1.length co36] rfl (by (try simp only [mA_,mC_,mN_]);first | done | rfl | (simp only [lD_,lT_];rfl)) ?_;(with_reducible refine (spec_PutSum.calls k1 _ _ x5_1 t452 _ ?side1 ?side2 A35.out).mono ?_);(case side1=>repeat (first | exact (Kd.R_reads' HO_5.out).2.2 | (with_reducible refine cA_ ?_ _) | (with_reducible refine cN_ ?_ _) | (with_reducible refine cD_ ?_)));(case side2=>exact (Kd.R_reads' HO_5.out).2.1);rintro e w37 ⟨v453,rfl,ho0,hb⟩;refine ⟨_,rfl,?_⟩;have n0_:=aM_ (Kd.R_elder' (by exact rZ_ HO_5) (Kd.R_base ho0) hb);have n1_:=aM_ (Kd.R_lower (Kd.R_new' ho0 (Kd.R_lt (by exact rZ_ HO_5))) (bS_ (by exact bZ_ HB)));have n2_:=aM_ (bT_ (by exact bZ_ HB) hb);clear HO_5;clear HB;have HO_5:=n0_;have HO454:=n1_;have HB:=n2_;clear n0_ n1_ n2_;(try clear hb);(try clear hb2);(try clear hk);(try clear hi);(try clear ho0)))
     go_ret
     exact ⟨_,by first | rfl | (simp [errW_none,errW_some] <;> rfl) | (simp [*, errW_none,errW_some] <;> rfl),by (with_reducible repeat (first | apply rA_ | apply rN_ | apply rD_));exact Kd.R_mono HO454.out (fun _ hk=>trivial),by exact bZ_ HB⟩
 ·replace c4:=Bool.eq_false_iff.mpr c4
  subst c4
  have H1 : (some (([] : List Int))) = some r:=by rw [if_neg (show ¬ (false = true) by decide)] at H;exact H
  clear H
  have H:=H1
  clear H1
  obtain ⟨y443,hy443⟩ : ∃ y_ : List Int,y_ = (([] : List Int)):=⟨_,rfl⟩
  replace H : (some y443) = some r:=by first | (rw [hy443];with_reducible exact H) | (have H2_:=(Option.bind_some _ _).symm.trans H;rw [hy443];with_reducible exact H2_) | (have H2_:=(Option.bind_some _ _).symm.trans H;with_reducible exact H2_) | with_reducible exact H | (rw [hy443];exact H) | exact H
  have Ny443:=aM_ hy443
  clear hy443
  obtain rfl:=Option.some.inj H
  go_enter Try.func36,Try.ntmps36
  go_wp2_with (first | ((with_reducible refine gate_callee (f:=45) rfl ?_);refine goesL_ (some 10) rfl rfl Try.func45 (by kernel_rfl) rfl #[.slice A0 l0.length c0,.slice A1 l1.length c1] rfl (by (try simp only [mA_,mC_,mN_]);first | done | rfl | (simp only [lD_,lT_];rfl)) ?_;(with_reducible refine (spec_RowOk.calls k _ _ l0 _ _ l1 false _ ?side1 ?side2 ?side3 ?side4 A3.out).mono ?_);(case side1=>repeat (first | exact HR0.out | (with_reducible refine cA_ ?_ _) | (with_reducible refine cN_ ?_ _) | (with_reducible refine cD_ ?_)));(case side2=>exact HC0.out);(case side3=>repeat (first | exact HR1.out | (with_reducible refine cA_ ?_ _) | (with_reducible refine cN_ ?_ _) | (with_reducible refine cD_ ?_)));(case side4=>exact HC1.out);rintro e w38 ⟨rfl,hb⟩;refine ⟨_,rfl,?_⟩;have n0_:=aM_ (bT_ (by exact bZ_ HB) hb);clear HB;have HB:=n0_;clear n0_;(try clear hb);(try clear hb2);(try clear hk);(try clear hi)) | ((with_reducible refine gate_dst (N:=12) rfl ?_);refine Kd.R_lit (Kd.int .u8) _ 5 ?hg (N:=12) ?hd (xs:=([] : List Int)) (inner:=[]) (ok:=fun _=>True) (okp:=fun _=>True) ?hr ?hp (fun _ hk=>hk) trivial (Below.refl _ _) (Nat.le_refl _) (by simp) ?_;(case hd=>rfl);(case hg=>rfl);(case hr=>first | (go_simp;done) | (go_simp;rfl));(case hp=>exact (Reps.none _ _));intro v444 w39 ho40 hb hg_ hnew_;clear hg_ hnew_;(first | rw [← Ny443.out] at ho40 | (simp only [Int.reduceToNat] at ho40;rw [← Ny443.out] at ho40));have n0_:=aM_ (Kd.R_lower ho40 (bS_ (by exact bZ_ HB)));have n1_:=aM_ (bT_ (by exact bZ_ HB) hb);clear HB;have HO445:=n0_;have HB:=n1_;clear n0_ n1_;clear hb ho40))
  go_ret
  exact ⟨_,by first | rfl | (simp [errW_none,errW_some] <;> rfl) | (simp [*, errW_none,errW_some] <;> rfl),by exact rZ_ HO445,by exact bZ_ HB⟩
def J155 (w0 W : World) (g : Nat) (f0 : List Int) (f1 : Int) (f2 : Int) : Prop:=∃ A0 c0,W.heap[g]? = some (.cells #[.slice A0 f0.length c0,.int .i64 f1,.int .i64 f2] 155 (0,0)) ∧ w0.heap.size ≤ g ∧ Kd.C (Kd.int .u8) w0 A0 f0.length f0 ∧ f0.length ≤ c0
theorem J155.grown {w0 W : World}{g : Nat}{f0 : List Int}{f1 : Int}{f2 : Int}{W1 : World}{row : Option Nat} (h : J155 w0 W g f0 f1 f2) (hw : W.grownBy W1 row) (hne : some g ≠ row) : J155 w0 W1 g f0 f1 f2:=by
 obtain ⟨A0,c0,hb,hg,hr0,hl0⟩:=h
 exact ⟨A0,c0,blk_grown hb hw hne,hg,hr0,hl0⟩
theorem J155.kept {w0 W : World}{g : Nat}{f0 : List Int}{f1 : Int}{f2 : Int}{W1 : World}{S : Nat → Prop} (h : J155 w0 W g f0 f1 f2) (hk : Kept W W1 S) (hne : ¬ S g) : J155 w0 W1 g f0 f1 f2:=by
 obtain ⟨A0,c0,hb,hg,hr0,hl0⟩:=h
 exact ⟨A0,c0,blk_kept hb hk hne,hg,hr0,hl0⟩
theorem J155.below {w0 W : World}{g : Nat}{f0 : List Int}{f1 : Int}{f2 : Int}{W1 : World} (h : J155 w0 W g f0 f1 f2) (hw : Below W.heap.size W W1) : J155 w0 W1 g f0 f1 f2:=h.grown (grown_of_below hw none) (by simp)
theorem J155.alloc {w0 W : World}{g : Nat}{f0 : List Int}{f1 : Int}{f2 : Int} (h : J155 w0 W g f0 f1 f2) (o : Obj) : J155 w0 (W.alloc o) g f0 f1 f2:=h.below (bA_ (Below.refl _ _) o)
theorem J155.drewN {w0 W : World}{g : Nat}{f0 : List Int}{f1 : Int}{f2 : Int} (h : J155 w0 W g f0 f1 f2) (m : Nat) : J155 w0 (W.drewN m) g f0 f1 f2:=h
theorem J155.drew {w0 W : World}{g : Nat}{f0 : List Int}{f1 : Int}{f2 : Int} (h : J155 w0 W g f0 f1 f2) : J155 w0 W.drew g f0 f1 f2:=h
theorem J155.at_ {w0 W : World}{g : Nat}{f0 : List Int}{f1 : Int}{f2 : Int}{w' : World}{m : Nat} (hq : W.drewN m = w') (h : J155 w0 W g f0 f1 f2) : J155 w0 w' g f0 f1 f2:=by subst hq;exact J155.drewN h m
theorem J155.apart {w0 W : World}{g : Nat}{f0 : List Int}{f1 : Int}{f2 : Int}{α : Type}{d : Kd α}{e : Nat}{base : Nat}{ok : Nat → Prop}{v : Value}{xs : List α} (h : J155 w0 W g f0 f1 f2) (ho : d.R e W base ok v xs) (ht : ∀ q,q ∈ e :: d.E → q ≠ 155) : d.R e W base (fun k=>ok k ∧ k ≠ g) v xs:=by
 obtain ⟨A0,c0,hb,hg,hr0,hl0⟩:=h
 exact Kd.R_types ho hb ht
theorem J155.own_ne {w0 W : World}{g : Nat}{f0 : List Int}{f1 : Int}{f2 : Int}{α : Type}{d : Kd α}{e : Nat}{base : Nat}{ok : Nat → Prop}{v : Value}{xs : List α} (h : J155 w0 W g f0 f1 f2) (ho : d.R e W base ok v xs) (ht : e ≠ 155) : some g ≠ v.ownBlock:=by
 obtain ⟨A0,c0,hb,hg,hr0,hl0⟩:=h
 exact Kd.R_ne ho hb ht
theorem J155.lt {w0 W : World}{g : Nat}{f0 : List Int}{f1 : Int}{f2 : Int} (h : J155 w0 W g f0 f1 f2) : g < W.heap.size:=by
 obtain ⟨A0,c0,hb,hg,hr0,hl0⟩:=h
 exact blk_lt hb
theorem J155.ge {w0 W : World}{g : Nat}{f0 : List Int}{f1 : Int}{f2 : Int} (h : J155 w0 W g f0 f1 f2) : w0.heap.size ≤ g:=by
 obtain ⟨A0,c0,hb,hg,hr0,hl0⟩:=h
 exact hg
theorem J155.far {w0 W : World}{g : Nat}{f0 : List Int}{f1 : Int}{f2 : Int}{p : Addr} (h : J155 w0 W g f0 f1 f2) (hne : g ≠ p.block) (u : Value) : J155 w0 (W.setCell p u) g f0 f1 f2:=by
 obtain ⟨A0,c0,hb,hg,hr0,hl0⟩:=h
 exact ⟨A0,c0,blk_far hb hne u,hg,hr0,hl0⟩
theorem J155.z {w0 W : World}{g : Nat}{f0 : List Int}{f1 : Int}{f2 : Int}  {X_ : World} (h : Aside0 (J155 w0 W g f0 f1 f2)) [s : Fst g W X_] : J155 w0 X_ g f0 f1 f2:=by
  obtain ⟨a0_,a1_,hb_,r_⟩:=h.out
  exact ⟨a0_,a1_,s.out _ _ hb_,r_⟩
theorem J155.y {w0 W : World}{g : Nat}{f0 : List Int}{f1 : Int}{f2 : Int}  {X_ : World} (h : J155 w0 W g f0 f1 f2) [s : Fs1 g X_ W] : J155 w0 X_ g f0 f1 f2:=by
  obtain ⟨a0_,a1_,hb_,r_⟩:=h
  exact ⟨a0_,a1_,s.out _ _ hb_,r_⟩
theorem cellS155_0 {W : World}{g : Nat}{A0 : Option Addr}{c0 : Nat}{f0 : List Int}{f1 : Int}{f2 : Int} (h : W.heap[g]? = some (.cells #[.slice A0 f0.length c0,.int .i64 f1,.int .i64 f2] 155 (0,0))) : W.cell? ⟨g,0,none⟩ = some (.slice A0 f0.length c0):=(kC_ h 0).trans rfl
theorem cellS155_1 {W : World}{g : Nat}{A0 : Option Addr}{c0 : Nat}{f0 : List Int}{f1 : Int}{f2 : Int} (h : W.heap[g]? = some (.cells #[.slice A0 f0.length c0,.int .i64 f1,.int .i64 f2] 155 (0,0))) : W.cell? ⟨g,1,none⟩ = some (.int .i64 f1):=(kC_ h 1).trans rfl
theorem J155.set_1 {w0 W : World}{g : Nat}{f0 : List Int}{f1 : Int}{f2 : Int} (h : J155 w0 W g f0 f1 f2) (x : Int) : J155 w0 (W.setCell ⟨g,1,none⟩ (.int .i64 x)) g f0 x f2:=by
 obtain ⟨A0,c0,hb,hg,hr0,hl0⟩:=h
 exact ⟨A0,c0,by simpa using blk_set hb 1 (.int .i64 x),hg,hr0,hl0⟩
theorem cellS155_2 {W : World}{g : Nat}{A0 : Option Addr}{c0 : Nat}{f0 : List Int}{f1 : Int}{f2 : Int} (h : W.heap[g]? = some (.cells #[.slice A0 f0.length c0,.int .i64 f1,.int .i64 f2] 155 (0,0))) : W.cell? ⟨g,2,none⟩ = some (.int .i64 f2):=(kC_ h 2).trans rfl
theorem J155.set_2 {w0 W : World}{g : Nat}{f0 : List Int}{f1 : Int}{f2 : Int} (h : J155 w0 W g f0 f1 f2) (x : Int) : J155 w0 (W.setCell ⟨g,2,none⟩ (.int .i64 x)) g f0 f1 x:=by
 obtain ⟨A0,c0,hb,hg,hr0,hl0⟩:=h
 exact ⟨A0,c0,by simpa using blk_set hb 2 (.int .i64 x),hg,hr0,hl0⟩
def spec_l1New.l0 : Nat → List Int → Int → Int → Option (List Int × Int × Int)
 | 0,_,_,_=>none
 | k + 1,x0,x3,x4=>if x4 < (x0.length : Int) then (if x4 < 4000 then (if 0 ≤ x4 then (spec_l1New.l0 k x0 (Go.bits .and .i64 (wrap64 ((wrap64 ((wrap64 (x3 * 137)) + (wrap64 (rd x0 x4)))) + 11)) 1073741823) (wrap64 (x4 + 1))) else (none)) else (some (x0,0,x3))) else (some (x0,0,x3))
def spec_l1New.f (k : Nat) (l0 : List Int) : Option (List Int × Int × Int):=spec_l1New.l0 k l0 (wrap64 (758758 + (l0.length : Int))) 0
theorem spec_l1New.mono_l : ∀ k,(∀ y0 y1 y2,LeO (spec_l1New.l0 k y0 y1 y2) (spec_l1New.l0 (k + 1) y0 y1 y2))
 | 0=>fun _ _ _ r h=>by simp [spec_l1New.l0] at h
 | k + 1=>by
  have ih0:=spec_l1New.mono_l k
  ·intro y0 y1 y2
   unfold spec_l1New.l0
   repeat' first
   | (with_reducible exact ih0 _ _ _)
   | (with_reducible exact LeO.refl _)
   | (with_reducible exact LeO.none _)
   | (with_reducible refine LeO.ite ?_ ?_)
   | (with_reducible refine LeO.bind ?_ (fun _=>?_))
   | exact ih0 _ _ _
   | exact LeO.none _
   | refine LeO.ite ?_ ?_
   | refine LeO.bind ?_ (fun _=>?_)
theorem spec_l1New.mono : ∀ a0 k,LeO (spec_l1New.f k a0) (spec_l1New.f (k + 1) a0):=by
 intro a0 k
 have ih0:=spec_l1New.mono_l k
 unfold spec_l1New.f
 repeat' first
   | (with_reducible exact ih0 _ _ _)
   | (with_reducible exact LeO.refl _)
   | (with_reducible exact LeO.none _)
   | (with_reducible refine LeO.ite ?_ ?_)
   | (with_reducible refine LeO.bind ?_ (fun _=>?_))
   | exact ih0 _ _ _
   | exact LeO.none _
   | refine LeO.ite ?_ ?_
   | refine LeO.bind ?_ (fun _=>?_)
set_option maxHeartbeats 8000000 in
set_option maxRecDepth 100000 in
theorem spec_l1New.calls (k : Nat) (A0 : Option Addr) (c0 : Nat) (l0 : List Int) (r1 : List Int) (r2 : Int) (r3 : Int) (w0 w : World) (hB : Below w0.heap.size w0 w) (hr0 : Kd.C (Kd.int .u8) w0 A0 l0.length l0) (hc0 : l0.length ≤ c0) (h : spec_l1New.f k l0 = some (r1,r2,r3)) :
  Calls Try.prog 83 #[.slice A0 l0.length c0] w fun e w'=>∃ g_ : Nat,e = .returned (.pointer (some ⟨g_,0,none⟩)) ∧ J155 w0 w' g_ r1 r2 r3 ∧ Below w0.heap.size w0 w' ∧ Below w.heap.size w w':=by
 have hu155:=Try.underlying155
 have HR0:=aM_ hr0
 have HC0:=aM_ hc0
 clear hr0 hc0
 have HBW:=aM_ (Below.refl w.heap.size w)
 have HW0:=aM_ hB.size
 have HB:=aM_ hB
 clear hB
 have H : (spec_l1New.l0 k l0 (wrap64 (758758 + (l0.length : Int))) 0) = some (r1,r2,r3):=h
 clear h
 have H':=aM_ H
 clear H
 go_enter Try.func83,Try.ntmps83
 go_wp2
 (try simp only [Act.put,sI_,sS_,sZ_])
 go_loopg [3,4] k (fun kq v3 v4 w'=>∃ (x3_1 : Int) (x4_1 : Int),v3 = .int .i64 x3_1 ∧ v4 = .int .i64 x4_1 ∧ Aside0 (spec_l1New.l0 kq l0 x3_1 x4_1 = some (r1,r2,r3)) ∧ Aside0 (kq ≤ k) ∧ Aside0 (Below w0.heap.size w0 w') ∧ Aside0 (Below w.heap.size w w'))
 case atStart=>exact ⟨(wrap64 (758758 + (l0.length : Int))),(0),(by first | rfl | (simp;done) | (simp [*];done)),(by first | rfl | (simp;done) | (simp [*];done)),H', ⟨Nat.le_refl _⟩,⟨by exact bZ_ HB⟩,⟨by exact bZ_ HBW⟩⟩
 case round =>
  clear H'
  obtain ⟨x3_1,x4_1,rfl,rfl,HA,HK1,HB,HBW⟩:=hrel
  cases gk with
  | zero=>exact absurd HA.out (by simp [spec_l1New.l0])
  | succ k1 =>
   have H:=HA.out
   clear HA
   simp only [spec_l1New.l0] at H
   by_cases c2 : x4_1 < (l0.length : Int)
   ·rw [if_pos c2] at H
    have c2b0 : decide (x4_1 < (l0.length : Int)) = true:=decide_eq_true c2
    clear c2
    by_cases c3 : x4_1 < 4000
    ·rw [if_pos c3] at H
     have c3b0 : decide (x4_1 < 4000) = true:=decide_eq_true c3
     clear c3
     by_cases c4 : 0 ≤ x4_1
     ·rw [if_pos c4] at H
      have c4b0 : decide (0 ≤ x4_1) = true:=decide_eq_true c4
      clear c4
      have H':=aM_ H
      clear H
      have p469 : 0 ≤ (x4_1 : Int):=oT_ (by first | (with_reducible assumption) | assumption)
      have q469 : x4_1 < (l0.length : Int):=oT_ (by first | (with_reducible assumption) | assumption)
      obtain ⟨ad469,e469,hx469_0⟩:=Kd.at_int HR0.out x4_1 p469 q469
      cases e469
      replace hx469_0:=pw_cell_below HB.out hx469_0
      replace p469:=eq_true p469
      replace q469:=eq_true q469
      go_wp2
      go_roundg k1
      case measure=>have:=HK1.out;omega
      case rel=>exact ⟨(Go.bits .and .i64 (wrap64 ((wrap64 ((wrap64 (x3_1 * 137)) + (wrap64 (rd l0 x4_1)))) + 11)) 1073741823),(wrap64 (x4_1 + 1)),(by first | rfl | (simp;done) | (simp [*];done)),(by first | rfl | (simp;done) | (simp [*];done)),H', ⟨by have:=HK1.out;omega⟩,⟨by exact bZ_ HB⟩,⟨by exact bZ_ HBW⟩⟩
     ·rw [if_neg c4] at H
      exact absurd H (by simp)
    ·rw [if_neg c3] at H
     have c3b0 : decide (x4_1 < 4000) = false:=decide_eq_false c3
     clear c3
     simp only [Option.some.injEq,Prod.mk.injEq] at H
     obtain ⟨rfl,rfl,rfl⟩:=H
     go_wp2_with (first | ((with_reducible refine gate_dst (N:=31) rfl ?_);refine box_event ?hg (N:=31) ?hd (cs:=#[.slice A0 l0.length c0,.int .i64 0,.int .i64 x3_1]) (t:=155) ?hr ?_;(case hd=>rfl);(case hg=>rfl);(case hr=>first | (go_simp;done) | (go_simp;rfl));intro gb470 hg w5 hbox hb;have n0_:=aM_ (bT_ HBW.out hb);have n1_:=aM_ (bT_ (by exact bZ_ HB) hb);have n2_:=aM_ (hbox);have n3_:=aM_ ((by rw [hg];exact (bS_ (by exact bZ_ HBW)) : w.heap.size ≤ gb470));have n4_:=aM_ ((Nat.le_trans HW0.out (by rw [hg];exact (bS_ (by exact bZ_ HBW)) : w.heap.size ≤ gb470) : w0.heap.size ≤ gb470));clear HBW;clear HB;have HBW:=n0_;have HB:=n1_;have BK470:=n2_;have GW470:=n3_;have GE470:=n4_;clear n0_ n1_ n2_ n3_ n4_;clear hb hbox hg))
     go_ret
     exact ⟨_,rfl,(show J155 w0 _ gb470 l0 0 x3_1 from ⟨_,_,by exact kZ_ BK470,GE470.out,HR0.out,HC0.out⟩),by exact bZ_ HB,by exact bZ_ HBW⟩
   ·rw [if_neg c2] at H
    have c2b0 : decide (x4_1 < (l0.length : Int)) = false:=decide_eq_false c2
    clear c2
    simp only [Option.some.injEq,Prod.mk.injEq] at H
    obtain ⟨rfl,rfl,rfl⟩:=H
    go_wp2_with (first | ((with_reducible refine gate_dst (N:=31) rfl ?_);refine box_event ?hg (N:=31) ?hd (cs:=#[.slice A0 l0.length c0,.int .i64 0,.int .i64 x3_1]) (t:=155) ?hr ?_;(case hd=>rfl);(case hg=>rfl);(case hr=>first | (go_simp;done) | (go_simp;rfl));intro gb471 hg w6 hbox hb;have n0_:=aM_ (bT_ HBW.out hb);have n1_:=aM_ (bT_ (by exact bZ_ HB) hb);have n2_:=aM_ (hbox);have n3_:=aM_ ((by rw [hg];exact (bS_ (by exact bZ_ HBW)) : w.heap.size ≤ gb471));have n4_:=aM_ ((Nat.le_trans HW0.out (by rw [hg];exact (bS_ (by exact bZ_ HBW)) : w.heap.size ≤ gb471) : w0.heap.size ≤ gb471));clear HBW;clear HB;have HBW:=n0_;have HB:=n1_;have BK471:=n2_;have GW471:=n3_;have GE471:=n4_;clear n0_ n1_ n2_ n3_ n4_;clear hb hbox hg))
    go_ret
    exact ⟨_,rfl,(show J155 w0 _ gb471 l0 0 x3_1 from ⟨_,_,by exact kZ_ BK471,GE471.out,HR0.out,HC0.out⟩),by exact bZ_ HB,by exact bZ_ HBW⟩
end Go.Proofs.Ytllgmgpfdnofmaa.PFnRowsRead
