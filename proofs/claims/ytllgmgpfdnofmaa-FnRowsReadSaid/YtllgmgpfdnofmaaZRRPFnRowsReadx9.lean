import Derived.Test.YtllgmgpfdnofmaaZRRPFnRowsReadx0
import Derived.Test.YtllgmgpfdnofmaaZRRPFnRowsReadx6
import Derived.Test.YtllgmgpfdnofmaaZRRPFnRowsReadx8
namespace Go.Proofs.Ytllgmgpfdnofmaa.PFnRowsRead
open Go.RowKit Go.Proofs.YtllgmgpfdnofmaaW.PrintWords Go.Proofs.YtllgmgpfdnofmaaW.PrintLast Go.Proofs.YtllgmgpfdnofmaaW.PrintMore Go.Proofs.Ytllgmgpfdnofmaa.Xtra
attribute [local go_sem] max2_int min2_int max_two min_two max_three min_three max_four min_four str_leq str_gtr str_geq setCell_drewN cell_set2 cell_set3   -- for this text's walks alone
set_option linter.unusedVariables false
set_option linter.unusedSimpArgs false
mutual
def spec_l4Read.j0 : Nat → List Int → Int → Int → Bool → Int → Bool → Option (Int × Bool)
 | 0,_,_,_,_,_,_=>none
 | k + 1,x0,x1,x2,x3,x10,x28=>if x28 = true then (some (0,false)) else (spec_l4Read.l0 k x0 x1 x2 x3 x10 0)
def spec_l4Read.l0 : Nat → List Int → Int → Int → Bool → Int → Int → Option (Int × Bool)
 | 0,_,_,_,_,_,_=>none
 | k + 1,x0,x1,x2,x3,x10,x11=>if x11 < x2 then (if 0 ≤ (wrap64 (x1 + x11)) then (if (wrap64 (x1 + x11)) < (x0.length : Int) then (if x3 = true then (spec_l4Read.l0 k x0 x1 x2 x3 (Go.bits .or .i64 (wrap64 (x10 * 256)) (wrap64 (Go.bits .xor .u8 255 (rd x0 (wrap64 (x1 + x11)))))) (wrap64 (x11 + 1))) else (spec_l4Read.l0 k x0 x1 x2 x3 (Go.bits .or .i64 (wrap64 (x10 * 256)) (wrap64 (rd x0 (wrap64 (x1 + x11))))) (wrap64 (x11 + 1)))) else (none)) else (none)) else (some (x10,true))
end
def spec_l4Read.f (k : Nat) (l0 : List Int) (a1 : Int) (a2 : Int) (a3 : Bool) : Option (Int × Bool):=if a1 < 0 then (spec_l4Read.j0 k l0 a1 a2 a3 0 true) else (if a1 > (l0.length : Int) then (spec_l4Read.j0 k l0 a1 a2 a3 0 true) else (spec_l4Read.j0 k l0 a1 a2 a3 0 (decide (a2 > (wrap64 ((l0.length : Int) - a1))))))
theorem spec_l4Read.mono_l : ∀ k,(∀ y0 y1 y2 y3 y4 y5,LeO (spec_l4Read.j0 k y0 y1 y2 y3 y4 y5) (spec_l4Read.j0 (k + 1) y0 y1 y2 y3 y4 y5)) ∧ (∀ y0 y1 y2 y3 y4 y5,LeO (spec_l4Read.l0 k y0 y1 y2 y3 y4 y5) (spec_l4Read.l0 (k + 1) y0 y1 y2 y3 y4 y5))
 | 0=>⟨fun _ _ _ _ _ _ r h=>by simp [spec_l4Read.j0] at h,fun _ _ _ _ _ _ r h=>by simp [spec_l4Read.l0] at h⟩
 | k + 1=>by
  obtain ⟨ih0,ih1⟩:=spec_l4Read.mono_l k
  refine ⟨?_,?_⟩
  ·intro y0 y1 y2 y3 y4 y5
   unfold spec_l4Read.j0
   repeat' first
   | (with_reducible exact ih0 _ _ _ _ _ _)
   | (with_reducible exact ih1 _ _ _ _ _ _)
   | (with_reducible exact LeO.refl _)
   | (with_reducible exact LeO.none _)
   | (with_reducible refine LeO.ite ?_ ?_)
   | (with_reducible refine LeO.bind ?_ (fun _=>?_))
   | exact ih0 _ _ _ _ _ _
   | exact ih1 _ _ _ _ _ _
   | exact LeO.none _
   | refine LeO.ite ?_ ?_
   | refine LeO.bind ?_ (fun _=>?_)
  ·intro y0 y1 y2 y3 y4 y5
   unfold spec_l4Read.l0
   repeat' first
   | (with_reducible exact ih0 _ _ _ _ _ _)
   | (with_reducible exact ih1 _ _ _ _ _ _)
   | (with_reducible exact LeO.refl _)
   | (with_reducible exact LeO.none _)
   | (with_reducible refine LeO.ite ?_ ?_)
   | (with_reducible refine LeO.bind ?_ (fun _=>?_))
   | exact ih0 _ _ _ _ _ _
   | exact ih1 _ _ _ _ _ _
   | exact LeO.none _
   | refine LeO.ite ?_ ?_
   | refine LeO.bind ?_ (fun _=>?_)
theorem spec_l4Read.mono : ∀ a0 a1 a2 a3 k,LeO (spec_l4Read.f k a0 a1 a2 a3) (spec_l4Read.f (k + 1) a0 a1 a2 a3):=by
 intro a0 a1 a2 a3 k
 obtain ⟨ih0,ih1⟩:=spec_l4Read.mono_l k
 unfold spec_l4Read.f
 repeat' first
   | (with_reducible exact ih0 _ _ _ _ _ _)
   | (with_reducible exact ih1 _ _ _ _ _ _)
   | (with_reducible exact LeO.refl _)
   | (with_reducible exact LeO.none _)
   | (with_reducible refine LeO.ite ?_ ?_)
   | (with_reducible refine LeO.bind ?_ (fun _=>?_))
   | exact ih0 _ _ _ _ _ _
   | exact ih1 _ _ _ _ _ _
   | exact LeO.none _
   | refine LeO.ite ?_ ?_
   | refine LeO.bind ?_ (fun _=>?_)
set_option maxHeartbeats 8000000 in
set_option maxRecDepth 100000 in
theorem spec_l4Read.calls (k : Nat) (A0 : Option Addr) (c0 : Nat) (l0 : List Int) (a1 : Int) (a2 : Int) (a3 : Bool) (r1 : Int) (r2 : Bool) (w : World) (hr0 : Kd.C (Kd.int .u8) w A0 l0.length l0) (hc0 : l0.length ≤ c0) (h : spec_l4Read.f k l0 a1 a2 a3 = some (r1,r2)) :
  Calls Try.prog 184 #[.slice A0 l0.length c0,.int .i64 a1,.int .i64 a2,.bool a3] w fun e w'=>e = .returned (.tuple #[.int .i64 r1,.bool r2]) ∧ Drawn0 w w':=by
 have HR0:=aM_ hr0
 have HC0:=aM_ hc0
 clear hr0 hc0
 have H : (if a1 < 0 then (spec_l4Read.j0 k l0 a1 a2 a3 0 true) else (if a1 > (l0.length : Int) then (spec_l4Read.j0 k l0 a1 a2 a3 0 true) else (spec_l4Read.j0 k l0 a1 a2 a3 0 (decide (a2 > (wrap64 ((l0.length : Int) - a1))))))) = some (r1,r2):=h
 clear h
 have HC5:=aM_ H
 clear H
 go_enter Try.func184,Try.ntmps184
 go_upto_region 2 with (fail)
 go_cut [28] (fun v28 wc=>∃ (kq : Nat) (x28_4 : Bool),v28 = .bool x28_4 ∧ Aside0 (spec_l4Read.j0 kq l0 a1 a2 a3 0 x28_4 = some (r1,r2)) ∧ Aside0 (kq ≤ k) ∧ Drawn0 w wc)
 case first =>
  have H:=HC5.out
  clear HC5
  by_cases c6 : a1 < 0
  ·rw [if_pos c6] at H
   have c6b0 : decide (a1 < 0) = true:=decide_eq_true c6
   clear c6
   (first | rw [c6b0] | (simp only [i64_w,i32_w];rw [c6b0]) | skip)
   have H':=aM_ H
   clear H
   go_wp2
   (first | go_meet | (refine Met.intro ?_;go_step;(repeat apply Exists.intro);refine ⟨?rel,?eq⟩;(case eq=>(try simp only [c6b0]);(try simp only [c6b0]);(try simp only [c6b0]);rfl)))
   case rel=>exact ⟨_,(true),(by first | rfl | (simp;done) | (simp [*];done)),H', ⟨by first | omega | exact Nat.le_refl _⟩,by repeat (first | exact Drawn0.refl _ | apply Drawn0.step)⟩
  ·rw [if_neg c6] at H
   have c6b0 : decide (a1 < 0) = false:=decide_eq_false c6
   clear c6
   (first | rw [c6b0] | (simp only [i64_w,i32_w];rw [c6b0]) | skip)
   by_cases c7 : a1 > (l0.length : Int)
   ·rw [if_pos c7] at H
    have c7b0 : decide ((l0.length : Int) < a1) = true:=decide_eq_true c7
    clear c7
    have H':=aM_ H
    clear H
    go_wp2
    (first | go_meet | (refine Met.intro ?_;go_step;(repeat apply Exists.intro);refine ⟨?rel,?eq⟩;(case eq=>(try simp only [c6b0]);(try simp only [c6b0]);(try simp only [c6b0]);rfl)))
    case rel=>exact ⟨_,(true),(by first | rfl | (simp;done) | (simp [*];done)),H', ⟨by first | omega | exact Nat.le_refl _⟩,by repeat (first | exact Drawn0.refl _ | apply Drawn0.step)⟩
   ·rw [if_neg c7] at H
    have c7b0 : decide ((l0.length : Int) < a1) = false:=decide_eq_false c7
    clear c7
    have H':=aM_ H
    clear H
    go_wp2
    (first | go_meet | (refine Met.intro ?_;go_step;(repeat apply Exists.intro);refine ⟨?rel,?eq⟩;(case eq=>(try simp only [c6b0]);(try simp only [c6b0]);(try simp only [c6b0]);rfl)))
    case rel=>exact ⟨_,(decide (a2 > (wrap64 ((l0.length : Int) - a1)))),(by first | rfl | (simp;done) | (simp [*];done)),H', ⟨by first | omega | exact Nat.le_refl _⟩,by repeat (first | exact Drawn0.refl _ | apply Drawn0.step)⟩
 case rest =>
  clear HC5
  try clear c1
  try clear p2
  try clear c6
  try clear c6b0
  try clear p6
  try clear c7
  try clear c7b0
  obtain ⟨kq,x28_4,rfl,HA,HJ4,⟨mc4,rfl⟩⟩:=hcut
  cases kq with
  | zero=>exact absurd HA.out (by simp [spec_l4Read.j0])
  | succ kj4 =>
   have H:=HA.out
   clear HA
   simp only [spec_l4Read.j0] at H
   by_cases c8 : x28_4 = true
   ·subst c8
    have H1 : (some (0,false)) = some (r1,r2):=by rw [if_pos rfl] at H;exact H
    clear H
    have H:=H1
    clear H1
    simp only [Option.some.injEq,Prod.mk.injEq] at H
    obtain ⟨rfl,rfl⟩:=H
    go_wp2
    go_ret2
    exact ⟨by first | rfl | (simp;done) | (simp [*];done),by repeat (first | exact Drawn0.refl _ | apply Drawn0.step)⟩
   ·replace c8:=Bool.eq_false_iff.mpr c8
    subst c8
    have H1 : (spec_l4Read.l0 kj4 l0 a1 a2 a3 0 0) = some (r1,r2):=by rw [if_neg (show ¬ (false = true) by decide)] at H;exact H
    clear H
    have H:=H1
    clear H1
    have H':=aM_ H
    clear H
    go_wp2
    (try simp only [Act.put,sI_,sS_,sZ_])
    go_loopg [10,11] kj4 (fun kq v10 v11 w'=>∃ (x10_2 : Int) (x11_2 : Int),v10 = .int .i64 x10_2 ∧ v11 = .int .i64 x11_2 ∧ Aside0 (spec_l4Read.l0 kq l0 a1 a2 a3 x10_2 x11_2 = some (r1,r2)) ∧ Aside0 (kq ≤ kj4) ∧ Drawn0 w w')
    case atStart=>exact ⟨(0),(0),(by first | rfl | (simp;done) | (simp [*];done)),(by first | rfl | (simp;done) | (simp [*];done)),H', ⟨Nat.le_refl _⟩,by repeat (first | exact Drawn0.refl _ | apply Drawn0.step)⟩
    case round =>
     clear H'
     try clear c1
     try clear p2
     try clear c4
     try clear c6
     try clear c6b0
     try clear p6
     try clear c7
     try clear c7b0
     try clear c8
     try clear p2
     try clear p6
     obtain ⟨x10_2,x11_2,rfl,rfl,HA,HK2,⟨m2,rfl⟩⟩:=hrel
     cases gk with
     | zero=>exact absurd HA.out (by simp [spec_l4Read.l0])
     | succ k2 =>
      have H:=HA.out
      clear HA
      simp only [spec_l4Read.l0] at H
      by_cases c9 : x11_2 < a2
      ·rw [if_pos c9] at H
       have c9b0 : decide (x11_2 < a2) = true:=decide_eq_true c9
       clear c9
       obtain ⟨ji10,hji10⟩ : ∃ j_ : Int,(wrap64 (a1 + x11_2)) = j_:=⟨_,rfl⟩
       replace H : (if 0 ≤ (ji10) then (if (ji10) < (l0.length : Int) then (if a3 = true then (spec_l4Read.l0 k2 l0 a1 a2 a3 (Go.bits .or .i64 (wrap64 (x10_2 * 256)) (wrap64 (Go.bits .xor .u8 255 (rd l0 (ji10))))) (wrap64 (x11_2 + 1))) else (spec_l4Read.l0 k2 l0 a1 a2 a3 (Go.bits .or .i64 (wrap64 (x10_2 * 256)) (wrap64 (rd l0 (ji10)))) (wrap64 (x11_2 + 1)))) else (none)) else (none)) = some (r1,r2):=by first | (rw [hji10] at H;exact H) | (simp only [hji10] at H ⊢;exact H)
       have hji10w : (IntKind.i64.wrap (a1 + x11_2)) = ji10:=(i64_w _).trans hji10
       by_cases c11 : 0 ≤ (ji10)
       ·rw [if_pos c11] at H
        have c11b0 : decide (0 ≤ (ji10)) = true:=decide_eq_true c11
        clear c11
        by_cases c12 : (ji10) < (l0.length : Int)
        ·rw [if_pos c12] at H
         have c12b0 : decide ((ji10) < (l0.length : Int)) = true:=decide_eq_true c12
         clear c12
         by_cases c13 : a3 = true
         ·subst c13
          have H1 : (spec_l4Read.l0 k2 l0 a1 a2 true (Go.bits .or .i64 (wrap64 (x10_2 * 256)) (wrap64 (Go.bits .xor .u8 255 (rd l0 (ji10))))) (wrap64 (x11_2 + 1))) = some (r1,r2):=by rw [if_pos rfl] at H;exact H
          clear H
          have H:=H1
          clear H1
          have H':=aM_ H
          clear H
          have p348 : 0 ≤ ((ji10) : Int):=oT_ (by first | (with_reducible assumption) | assumption)
          have q348 : (ji10) < (l0.length : Int):=oT_ (by first | (with_reducible assumption) | assumption)
          obtain ⟨ad348,e348,hx348_0⟩:=Kd.at_int HR0.out (ji10) p348 q348
          cases e348
          replace p348:=eq_true p348
          replace q348:=eq_true q348
          go_wp2
          go_roundg k2
          case measure=>have:=HJ4.out;have:=HK2.out;omega
          case rel=>exact ⟨(Go.bits .or .i64 (wrap64 (x10_2 * 256)) (wrap64 (Go.bits .xor .u8 255 (rd l0 (ji10))))),(wrap64 (x11_2 + 1)),(by first | rfl | (simp;done) | (simp only [← hji10] <;> (first | rfl | simp)) | (simp [*];done)),(by first | rfl | (simp;done) | (simp [*];done)),H', ⟨by have:=HJ4.out;have:=HK2.out;omega⟩,by repeat (first | exact Drawn0.refl _ | apply Drawn0.step)⟩
         ·replace c13:=Bool.eq_false_iff.mpr c13
          subst c13
          have H1 : (spec_l4Read.l0 k2 l0 a1 a2 false (Go.bits .or .i64 (wrap64 (x10_2 * 256)) (wrap64 (rd l0 (ji10)))) (wrap64 (x11_2 + 1))) = some (r1,r2):=by rw [if_neg (show ¬ (false = true) by decide)] at H;exact H
          clear H
          have H:=H1
          clear H1
          have H':=aM_ H
          clear H
          have p348 : 0 ≤ ((ji10) : Int):=oT_ (by first | (with_reducible assumption) | assumption)
          have q348 : (ji10) < (l0.length : Int):=oT_ (by first | (with_reducible assumption) | assumption)
          obtain ⟨ad348,e348,hx348_0⟩:=Kd.at_int HR0.out (ji10) p348 q348
          cases e348
          replace p348:=eq_true p348
          replace q348:=eq_true q348
          go_wp2
          go_roundg k2
          case measure=>have:=HJ4.out;have:=HK2.out;omega
          case rel=>exact ⟨(Go.bits .or .i64 (wrap64 (x10_2 * 256)) (wrap64 (rd l0 (ji10)))),(wrap64 (x11_2 + 1)),(by first | rfl | (simp;done) | (simp only [← hji10] <;> (first | rfl | simp)) | (simp [*];done)),(by first | rfl | (simp;done) | (simp [*];done)),H', ⟨by have:=HJ4.out;have:=HK2.out;omega⟩,by repeat (first | exact Drawn0.refl _ | apply Drawn0.step)⟩
        ·rw [if_neg c12] at H
         exact absurd H (by simp)
       ·rw [if_neg c11] at H
        exact absurd H (by simp)
      ·rw [if_neg c9] at H
       have c9b0 : decide (x11_2 < a2) = false:=decide_eq_false c9
       clear c9
       simp only [Option.some.injEq,Prod.mk.injEq] at H
       obtain ⟨rfl,rfl⟩:=H
       go_wp2
       go_ret2
       exact ⟨by first | rfl | (simp;done) | (simp [*];done),by repeat (first | exact Drawn0.refl _ | apply Drawn0.step)⟩
mutual
def spec_GetVar.j0 : Nat → List Int → Int → Bool → Option (Int × Int × Bool)
 | 0,_,_,_=>none
 | k + 1,x0,x1,x27=>if x27 = true then (some (0,0,false)) else (if 0 ≤ x1 then (if x1 < (x0.length : Int) then (if (wrap64 ((wrap64 (rd x0 x1)) - 128)) < 0 then (spec_GetVar.j1 k x0 x1 (wrap64 ((-1) - (wrap64 ((wrap64 (rd x0 x1)) - 128)))) (decide ((wrap64 ((wrap64 (rd x0 x1)) - 128)) < 0))) else (spec_GetVar.j1 k x0 x1 (wrap64 ((wrap64 (rd x0 x1)) - 128)) (decide ((wrap64 ((wrap64 (rd x0 x1)) - 128)) < 0)))) else (none)) else (none))
def spec_GetVar.j1 : Nat → List Int → Int → Int → Bool → Option (Int × Int × Bool)
 | 0,_,_,_,_=>none
 | k + 1,x0,x1,x7,x8=>(spec_l4Read.f k x0 (wrap64 (x1 + 1)) x7 x8).bind fun bt352=>(if x8 = true then (spec_GetVar.j2 k x1 x7 (wrap64 ((-1) - bt352.1)) bt352.2) else (spec_GetVar.j2 k x1 x7 bt352.1 bt352.2))
def spec_GetVar.j2 : Nat → Int → Int → Int → Bool → Option (Int × Int × Bool)
 | 0,_,_,_,_=>none
 | k + 1,x1,x7,x9,x10=>if x10 = true then ((spec_l1In.f x9 (-1000000000000000) 1000000000000000).bind fun t354=>(if t354 = true then ((spec_PutVar.f k (([] : List Int)) x9).bind fun t358=>(if (t358.length : Int) = (wrap64 (x7 + 1)) then (some (x9,wrap64 ((wrap64 (x1 + 1)) + x7),true)) else (some (0,0,false)))) else (some (0,0,false)))) else (some (0,0,false))
end
def spec_GetVar.f (k : Nat) (l0 : List Int) (a1 : Int) : Option (Int × Int × Bool):=if a1 < 0 then (spec_GetVar.j0 k l0 a1 true) else (if a1 ≥ (l0.length : Int) then (spec_GetVar.j0 k l0 a1 true) else (if 0 ≤ a1 then (if a1 < (l0.length : Int) then ((spec_l1In.f (wrap64 (rd l0 a1)) 120 135).bind fun t350=>(spec_GetVar.j0 k l0 a1 (!t350))) else (none)) else (none)))
theorem spec_GetVar.mono_l : ∀ k,(∀ y0 y1 y2,LeO (spec_GetVar.j0 k y0 y1 y2) (spec_GetVar.j0 (k + 1) y0 y1 y2)) ∧ (∀ y0 y1 y2 y3,LeO (spec_GetVar.j1 k y0 y1 y2 y3) (spec_GetVar.j1 (k + 1) y0 y1 y2 y3)) ∧ (∀ y0 y1 y2 y3,LeO (spec_GetVar.j2 k y0 y1 y2 y3) (spec_GetVar.j2 (k + 1) y0 y1 y2 y3))
 | 0=>⟨fun _ _ _ r h=>by simp [spec_GetVar.j0] at h,fun _ _ _ _ r h=>by simp [spec_GetVar.j1] at h,fun _ _ _ _ r h=>by simp [spec_GetVar.j2] at h⟩
 | k + 1=>by
  obtain ⟨ih0,ih1,ih2⟩:=spec_GetVar.mono_l k
  refine ⟨?_,?_,?_⟩
  ·intro y0 y1 y2
   unfold spec_GetVar.j0
   repeat' first
   | (with_reducible exact ih0 _ _ _)
   | (with_reducible exact ih1 _ _ _ _)
   | (with_reducible exact ih2 _ _ _ _)
   | (with_reducible exact spec_PutVar.mono _ _ _)
   | (with_reducible exact spec_l4Read.mono _ _ _ _ _)
   | (with_reducible exact LeO.refl _)
   | (with_reducible exact LeO.none _)
   | (with_reducible refine LeO.ite ?_ ?_)
   | (with_reducible refine LeO.bind ?_ (fun _=>?_))
   | exact ih0 _ _ _
   | exact ih1 _ _ _ _
   | exact ih2 _ _ _ _
   | exact spec_PutVar.mono _ _ _
   | exact spec_l4Read.mono _ _ _ _ _
   | exact LeO.none _
   | refine LeO.ite ?_ ?_
   | refine LeO.bind ?_ (fun _=>?_)
  ·intro y0 y1 y2 y3
   unfold spec_GetVar.j1
   repeat' first
   | (with_reducible exact ih0 _ _ _)
   | (with_reducible exact ih1 _ _ _ _)
   | (with_reducible exact ih2 _ _ _ _)
   | (with_reducible exact spec_PutVar.mono _ _ _)
   | (with_reducible exact spec_l4Read.mono _ _ _ _ _)
   | (with_reducible exact LeO.refl _)
   | (with_reducible exact LeO.none _)
   | (with_reducible refine LeO.ite ?_ ?_)
   | (with_reducible refine LeO.bind ?_ (fun _=>?_))
   | exact ih0 _ _ _
   | exact ih1 _ _ _ _
   | exact ih2 _ _ _ _
   | exact spec_PutVar.mono _ _ _
   | exact spec_l4Read.mono _ _ _ _ _
   | exact LeO.none _
   | refine LeO.ite ?_ ?_
   | refine LeO.bind ?_ (fun _=>?_)
  ·intro y0 y1 y2 y3
   unfold spec_GetVar.j2
   repeat' first
   | (with_reducible exact ih0 _ _ _)
   | (with_reducible exact ih1 _ _ _ _)
   | (with_reducible exact ih2 _ _ _ _)
   | (with_reducible exact spec_PutVar.mono _ _ _)
   | (with_reducible exact spec_l4Read.mono _ _ _ _ _)
   | (with_reducible exact LeO.refl _)
   | (with_reducible exact LeO.none _)
   | (with_reducible refine LeO.ite ?_ ?_)
   | (with_reducible refine LeO.bind ?_ (fun _=>?_))
   | exact ih0 _ _ _
   | exact ih1 _ _ _ _
   | exact ih2 _ _ _ _
   | exact spec_PutVar.mono _ _ _
   | exact spec_l4Read.mono _ _ _ _ _
   | exact LeO.none _
   | refine LeO.ite ?_ ?_
   | refine LeO.bind ?_ (fun _=>?_)
theorem spec_GetVar.mono : ∀ a0 a1 k,LeO (spec_GetVar.f k a0 a1) (spec_GetVar.f (k + 1) a0 a1):=by
 intro a0 a1 k
 obtain ⟨ih0,ih1,ih2⟩:=spec_GetVar.mono_l k
 unfold spec_GetVar.f
 repeat' first
   | (with_reducible exact ih0 _ _ _)
   | (with_reducible exact ih1 _ _ _ _)
   | (with_reducible exact ih2 _ _ _ _)
   | (with_reducible exact spec_PutVar.mono _ _ _)
   | (with_reducible exact spec_l4Read.mono _ _ _ _ _)
   | (with_reducible exact LeO.refl _)
   | (with_reducible exact LeO.none _)
   | (with_reducible refine LeO.ite ?_ ?_)
   | (with_reducible refine LeO.bind ?_ (fun _=>?_))
   | exact ih0 _ _ _
   | exact ih1 _ _ _ _
   | exact ih2 _ _ _ _
   | exact spec_PutVar.mono _ _ _
   | exact spec_l4Read.mono _ _ _ _ _
   | exact LeO.none _
   | refine LeO.ite ?_ ?_
   | refine LeO.bind ?_ (fun _=>?_)
set_option maxHeartbeats 8000000 in
set_option maxRecDepth 100000 in
theorem spec_GetVar.calls (k : Nat) (A0 : Option Addr) (c0 : Nat) (l0 : List Int) (a1 : Int) (r1 : Int) (r2 : Int) (r3 : Bool) (w : World) (hr0 : Kd.C (Kd.int .u8) w A0 l0.length l0) (hc0 : l0.length ≤ c0) (h : spec_GetVar.f k l0 a1 = some (r1,r2,r3)) :
  Calls Try.prog 166 #[.slice A0 l0.length c0,.int .i64 a1] w fun e w'=>e = .returned (.tuple #[.int .i64 r1,.int .i64 r2,.bool r3]) ∧ Below w.heap.size w w':=by
 have HR0:=aM_ hr0
 have HC0:=aM_ hc0
 clear hr0 hc0
 have HB:=aM_ (Below.refl w.heap.size w)
 have H : (if a1 < 0 then (spec_GetVar.j0 k l0 a1 true) else (if a1 ≥ (l0.length : Int) then (spec_GetVar.j0 k l0 a1 true) else (if 0 ≤ a1 then (if a1 < (l0.length : Int) then ((spec_l1In.f (wrap64 (rd l0 a1)) 120 135).bind fun t350=>(spec_GetVar.j0 k l0 a1 (!t350))) else (none)) else (none)))) = some (r1,r2,r3):=h
 clear h
 have HC3:=aM_ H
 clear H
 go_enter Try.func166,Try.ntmps166
 go_upto_region 1 with (fail)
 go_cut [27] (fun v27 wc=>∃ (kq : Nat) (x27_2 : Bool),v27 = .bool x27_2 ∧ Aside0 (spec_GetVar.j0 kq l0 a1 x27_2 = some (r1,r2,r3)) ∧ Aside0 (kq ≤ k) ∧ Aside0 (Below w.heap.size w wc))
 case first =>
  have H:=HC3.out
  clear HC3
  by_cases c4 : a1 < 0
  ·rw [if_pos c4] at H
   have c4b0 : decide (a1 < 0) = true:=decide_eq_true c4
   clear c4
   (first | rw [c4b0] | (simp only [i64_w,i32_w];rw [c4b0]) | skip)
   have H':=aM_ H
   clear H
   go_wp2
   (first | go_meet | (refine Met.intro ?_;go_step;(repeat apply Exists.intro);refine ⟨?rel,?eq⟩;(case eq=>(try simp only [c6b0]);(try simp only [c6b0]);(try simp only [c4b0]);rfl)))
   case rel=>exact ⟨_,(true),(by first | rfl | (simp;done) | (simp [*];done)),H', ⟨by first | omega | exact Nat.le_refl _⟩,⟨by exact bZ_ HB⟩⟩
  ·rw [if_neg c4] at H
   have c4b0 : decide (a1 < 0) = false:=decide_eq_false c4
   clear c4
   (first | rw [c4b0] | (simp only [i64_w,i32_w];rw [c4b0]) | skip)
   by_cases c5 : a1 ≥ (l0.length : Int)
   ·rw [if_pos c5] at H
    have c5b0 : decide ((l0.length : Int) ≤ a1) = true:=decide_eq_true c5
    clear c5
    have H':=aM_ H
    clear H
    go_wp2
    (first | go_meet | (refine Met.intro ?_;go_step;(repeat apply Exists.intro);refine ⟨?rel,?eq⟩;(case eq=>(try simp only [c6b0]);(try simp only [c4b0]);(try simp only [c4b0]);rfl)))
    case rel=>exact ⟨_,(true),(by first | rfl | (simp;done) | (simp [*];done)),H', ⟨by first | omega | exact Nat.le_refl _⟩,⟨by exact bZ_ HB⟩⟩
   ·rw [if_neg c5] at H
    have c5b0 : decide ((l0.length : Int) ≤ a1) = false:=decide_eq_false c5
    clear c5
    by_cases c6 : 0 ≤ a1
    ·rw [if_pos c6] at H
     have c6b0 : decide (0 ≤ a1) = true:=decide_eq_true c6
     clear c6
     by_cases c7 : a1 < (l0.length : Int)
     ·rw [if_pos c7] at H
      have c7b0 : decide (a1 < (l0.length : Int)) = true:=decide_eq_true c7
      clear c7
      replace H:=oB_ H
      obtain ⟨t350,A80,H⟩:=H
      replace H : (spec_GetVar.j0 k l0 a1 (!t350)) = some (r1,r2,r3):=H
      have A8:=aM_ A80
      clear A80
      have H':=aM_ H
      clear H
      have p349 : 0 ≤ (a1 : Int):=oT_ (by first | (with_reducible assumption) | assumption)
      have q349 : a1 < (l0.length : Int):=oT_ (by first | (with_reducible assumption) | assumption)
      obtain ⟨ad349,e349,hx349_0⟩:=Kd.at_int HR0.out a1 p349 q349
      cases e349
      replace hx349_0:=(HB.out.cell (wL_ w _ hx349_0)).trans hx349_0
      replace p349:=eq_true p349
      replace q349:=eq_true q349
      go_wp2_with (first | (go_at_call 89;(with_reducible refine (spec_l1In.calls (wrap64 (rd l0 a1)) 120 135 t350 _ A8.out).mono ?_);rintro e w' ⟨rfl,⟨nd,rfl⟩⟩))
      (first | go_meet | (refine Met.intro ?_;go_step;(repeat apply Exists.intro);refine ⟨?rel,?eq⟩;(case eq=>(try simp only [c6b0]);(try simp only [c4b0]);(try simp only [c4b0]);rfl)))
      case rel=>exact ⟨_,(!t350),(by first | rfl | (simp;done) | (simp [*];done)),H', ⟨by first | omega | exact Nat.le_refl _⟩,⟨by exact bZ_ HB⟩⟩
     ·rw [if_neg c7] at H
      exact absurd H (by simp)
    ·rw [if_neg c6] at H
     exact absurd H (by simp)
 case rest =>
  clear HC3
  try clear c1
  try clear p2
  try clear p3
  try clear q3
  try clear hx3
  try clear c4
  try clear c4b0
  try clear c5
  try clear c5b0
  try clear c6
  try clear c6b0
  try clear p6
  try clear c7
  try clear c7b0
  try clear hx349_0
  try clear p349
  try clear q349
  obtain ⟨kq,x27_2,rfl,HA,HJ2,HB⟩:=hcut
  cases kq with
  | zero=>exact absurd HA.out (by simp [spec_GetVar.j0])
  | succ kj2 =>
   have H:=HA.out
   clear HA
   simp only [spec_GetVar.j0] at H
   by_cases c9 : x27_2 = true
   ·subst c9
    have H1 : (some (0,0,false)) = some (r1,r2,r3):=by rw [if_pos rfl] at H;exact H
    clear H
    have H:=H1
    clear H1
    simp only [Option.some.injEq,Prod.mk.injEq] at H
    obtain ⟨rfl,rfl,rfl⟩:=H
    go_wp2
    go_ret3
    exact ⟨by first | rfl | (simp [errW_none,errW_some] <;> rfl) | (simp [*, errW_none,errW_some] <;> rfl),by exact bZ_ HB⟩
   ·replace c9:=Bool.eq_false_iff.mpr c9
    subst c9
    have H1 : (if 0 ≤ a1 then (if a1 < (l0.length : Int) then (if (wrap64 ((wrap64 (rd l0 a1)) - 128)) < 0 then (spec_GetVar.j1 kj2 l0 a1 (wrap64 ((-1) - (wrap64 ((wrap64 (rd l0 a1)) - 128)))) (decide ((wrap64 ((wrap64 (rd l0 a1)) - 128)) < 0))) else (spec_GetVar.j1 kj2 l0 a1 (wrap64 ((wrap64 (rd l0 a1)) - 128)) (decide ((wrap64 ((wrap64 (rd l0 a1)) - 128)) < 0)))) else (none)) else (none)) = some (r1,r2,r3):=by rw [if_neg (show ¬ (false = true) by decide)] at H;exact H
    clear H
    have H:=H1
    clear H1
    by_cases c10 : 0 ≤ a1
    ·rw [if_pos c10] at H
     have c10b0 : decide (0 ≤ a1) = true:=decide_eq_true c10
     clear c10
     by_cases c11 : a1 < (l0.length : Int)
     ·rw [if_pos c11] at H
      have c11b0 : decide (a1 < (l0.length : Int)) = true:=decide_eq_true c11
      clear c11
      have HC12:=aM_ H
      clear H
      have p351 : 0 ≤ (a1 : Int):=oT_ (by first | (with_reducible assumption) | assumption)
      have q351 : a1 < (l0.length : Int):=oT_ (by first | (with_reducible assumption) | assumption)
      obtain ⟨ad351,e351,hx351_0⟩:=Kd.at_int HR0.out a1 p351 q351
      cases e351
      replace hx351_0:=(HB.out.cell (wL_ w _ hx351_0)).trans hx351_0
      replace p351:=eq_true p351
      replace q351:=eq_true q351
      go_upto_if 36 with (fail)
      go_cut [7] (fun v7 wc=>∃ (kq : Nat) (x7_11 : Int),v7 = .int .i64 x7_11 ∧ Aside0 (spec_GetVar.j1 kq l0 a1 x7_11 (decide ((wrap64 ((wrap64 (rd l0 a1)) - 128)) < 0)) = some (r1,r2,r3)) ∧ Aside0 (kq ≤ kj2) ∧ Aside0 (Below w.heap.size w wc))
      case first =>
       have H:=HC12.out
       clear HC12
       by_cases c13 : (wrap64 ((wrap64 (rd l0 a1)) - 128)) < 0
       ·rw [if_pos c13] at H
        have c13b0 : decide ((wrap64 ((wrap64 (rd l0 a1)) - 128)) < 0) = true:=decide_eq_true c13
        clear c13
        (first | rw [c13b0] | (simp only [i64_w,i32_w];rw [c13b0]) | skip)
        have H':=aM_ H
        clear H
        go_wp2
        (first | go_meet | (refine Met.intro ?_;go_step;(repeat apply Exists.intro);refine ⟨?rel,?eq⟩;(case eq=>(try simp only [c4b0]);(try simp only [c4b0]);(try simp only [c13b0]);rfl)))
        case rel=>exact ⟨_,(wrap64 ((-1) - (wrap64 ((wrap64 (rd l0 a1)) - 128)))),(by first | rfl | (simp;done) | (simp [*];done)),H', ⟨by have:=HJ2.out;first | omega | exact Nat.le_refl _⟩,⟨by exact bZ_ HB⟩⟩
       ·rw [if_neg c13] at H
        have c13b0 : decide ((wrap64 ((wrap64 (rd l0 a1)) - 128)) < 0) = false:=decide_eq_false c13
        clear c13
        (first | rw [c13b0] | (simp only [i64_w,i32_w];rw [c13b0]) | skip)
        have H':=aM_ H
        clear H
        go_wp2
        (first | go_meet | (refine Met.intro ?_;go_step;(repeat apply Exists.intro);refine ⟨?rel,?eq⟩;(case eq=>(try simp only [c4b0]);(try simp only [c13b0]);(try simp only [c13b0]);rfl)))
        case rel=>exact ⟨_,(wrap64 ((wrap64 (rd l0 a1)) - 128)),(by first | rfl | (simp;done) | (simp [*];done)),H', ⟨by have:=HJ2.out;first | omega | exact Nat.le_refl _⟩,⟨by exact bZ_ HB⟩⟩
      case rest =>
       clear HC12
       try clear c1
       try clear p2
       try clear p3
       try clear q3
       try clear hx3
       try clear c4
       try clear c4b0
       try clear c5
       try clear c5b0
       try clear c6
       try clear c6b0
       try clear p6
       try clear c7
       try clear c7b0
       try clear c9
       try clear c10
       try clear c10b0
       try clear c11
       try clear c11b0
       try clear c13
       try clear c13b0
       try clear hx349_0
       try clear hx351_0
       try clear p2
       try clear p3
       try clear p349
       try clear p351
       try clear p6
       try clear q3
       try clear q349
       try clear q351
       obtain ⟨kq,x7_11,rfl,HA,HJ11,HB⟩:=hcut
       cases kq with
       | zero=>exact absurd HA.out (by simp [spec_GetVar.j1])
       | succ kj11 =>
        have H:=HA.out
        clear HA
        simp only [spec_GetVar.j1] at H
        replace H:=oB_ H
        obtain ⟨⟨t352,t353⟩,A140,H⟩:=H
        replace H : (if (decide ((wrap64 ((wrap64 (rd l0 a1)) - 128)) < 0)) = true then (spec_GetVar.j2 kj11 a1 x7_11 (wrap64 ((-1) - t352)) t353) else (spec_GetVar.j2 kj11 a1 x7_11 t352 t353)) = some (r1,r2,r3):=H
        have A14:=aM_ A140
        clear A140
        have HC15:=aM_ H
        clear H
        go_upto_if 48 with (first | ((with_reducible refine gate_callee (f:=184) rfl ?_);refine goesL_ (some 45) rfl rfl Try.func184 (by kernel_rfl) rfl #[.slice (some ad351) l0.length c0,.int .i64 (wrap64 (a1 + 1)),.int .i64 x7_11,.bool (decide ((wrap64 ((wrap64 (rd l0 a1)) - 128)) < 0))] rfl (by (try simp only [mA_,mC_,mN_]);first | done | rfl | (simp only [lD_,lT_];rfl)) ?_;(with_reducible refine (spec_l4Read.calls kj11 _ _ l0 (wrap64 (a1 + 1)) x7_11 (decide ((wrap64 ((wrap64 (rd l0 a1)) - 128)) < 0)) t352 t353 _ ?side1 ?side2 A14.out).mono ?_);(case side1=>repeat (first | exact (Kd.C_below HR0.out HB.out) | (with_reducible refine cA_ ?_ _) | (with_reducible refine cN_ ?_ _) | (with_reducible refine cD_ ?_)));(case side2=>exact HC0.out);rintro e w' ⟨rfl,⟨nd,rfl⟩⟩;refine ⟨_,rfl,?_⟩))
        (try simp only [Act.put,sI_,sZ_,sS_])
        go_cut [9] (fun v9 wc=>∃ (kq : Nat) (x9_14 : Int),v9 = .int .i64 x9_14 ∧ Aside0 (spec_GetVar.j2 kq a1 x7_11 x9_14 t353 = some (r1,r2,r3)) ∧ Aside0 (kq ≤ kj11) ∧ Aside0 (Below w.heap.size w wc))
        case first =>
         have H:=HC15.out
         clear HC15
         by_cases c16 : (decide ((wrap64 ((wrap64 (rd l0 a1)) - 128)) < 0)) = true
         ·rw [if_pos c16] at H
          have c16b0 : (decide ((wrap64 ((wrap64 (rd l0 a1)) - 128)) < 0)) = true:=c16
          clear c16
          (first | rw [c16b0] | (simp only [i64_w,i32_w];rw [c16b0]) | skip)
          have H':=aM_ H
          clear H
          go_wp2
          (first | go_meet | (refine Met.intro ?_;go_step;(repeat apply Exists.intro);refine ⟨?rel,?eq⟩;(case eq=>(try simp only [c13b0]);(try simp only [c13b0]);(try simp only [c16b0]);rfl)))
          case rel=>exact ⟨_,(wrap64 ((-1) - t352)),(by first | rfl | (simp;done) | (simp [*];done)),H', ⟨by have:=HJ2.out;have:=HJ11.out;first | omega | exact Nat.le_refl _⟩,⟨by exact bZ_ HB⟩⟩
         ·rw [if_neg c16] at H
          have c16b0 : (decide ((wrap64 ((wrap64 (rd l0 a1)) - 128)) < 0)) = false:=by simpa using c16
          clear c16
          (first | rw [c16b0] | (simp only [i64_w,i32_w];rw [c16b0]) | skip)
          have H':=aM_ H
          clear H
          go_wp2
          (first | go_meet | (refine Met.intro ?_;go_step;(repeat apply Exists.intro);refine ⟨?rel,?eq⟩;(case eq=>(try simp only [c13b0]);(try simp only [c16b0]);(try simp only [c16b0]);rfl)))
          case rel=>exact ⟨_,(t352),(by first | rfl | (simp;done) | (simp [*];done)),H', ⟨by have:=HJ2.out;have:=HJ11.out;first | omega | exact Nat.le_refl _⟩,⟨by exact bZ_ HB⟩⟩
        case rest =>
         clear HC15
         try clear c1
         try clear p2
         try clear p3
         try clear q3
         try clear hx3
         try clear c4
         try clear c4b0
         try clear c5
         try clear c5b0
         try clear c6
         try clear c6b0
         try clear p6
         try clear c7
         try clear c7b0
         try clear c9
         try clear c10
         try clear c10b0
         try clear c11
         try clear c11b0
         try clear c13
         try clear c13b0
         try clear c16
         try clear c16b0
         try clear hx349_0
         try clear hx351_0
         try clear p2
         try clear p3
         try clear p349
         try clear p351
         try clear p6
         try clear q3
         try clear q349
         try clear q351
         obtain ⟨kq,x9_14,rfl,HA,HJ14,HB⟩:=hcut
         cases kq with
         | zero=>exact absurd HA.out (by simp [spec_GetVar.j2])
         | succ kj14 =>
          have H:=HA.out
          clear HA
          simp only [spec_GetVar.j2] at H
          by_cases c17 : t353 = true
          ·subst c17
           have H1 : ((spec_l1In.f x9_14 (-1000000000000000) 1000000000000000).bind fun t354=>(if t354 = true then ((spec_PutVar.f kj14 (([] : List Int)) x9_14).bind fun t358=>(if (t358.length : Int) = (wrap64 (x7_11 + 1)) then (some (x9_14,wrap64 ((wrap64 (a1 + 1)) + x7_11),true)) else (some (0,0,false)))) else (some (0,0,false)))) = some (r1,r2,r3):=by rw [if_pos rfl] at H;exact H
           clear H
           have H:=H1
           clear H1
           replace H:=oB_ H
           obtain ⟨t354,A180,H⟩:=H
           replace H : (if t354 = true then ((spec_PutVar.f kj14 (([] : List Int)) x9_14).bind fun t358=>(if (t358.length : Int) = (wrap64 (x7_11 + 1)) then (some (x9_14,wrap64 ((wrap64 (a1 + 1)) + x7_11),true)) else (some (0,0,false)))) else (some (0,0,false))) = some (r1,r2,r3):=H
           have A18:=aM_ A180
           clear A180
           by_cases c19 : t354 = true
           ·subst c19
            have H1 : ((spec_PutVar.f kj14 (([] : List Int)) x9_14).bind fun t358=>(if (t358.length : Int) = (wrap64 (x7_11 + 1)) then (some (x9_14,wrap64 ((wrap64 (a1 + 1)) + x7_11),true)) else (some (0,0,false)))) = some (r1,r2,r3):=by rw [if_pos rfl] at H;exact H
            clear H
            have H:=H1
            clear H1
            obtain ⟨y355,hy355⟩ : ∃ y_ : List Int,y_ = (([] : List Int)):=⟨_,rfl⟩
            replace H : ((spec_PutVar.f kj14 y355 x9_14).bind fun t358=>(if (t358.length : Int) = (wrap64 (x7_11 + 1)) then (some (x9_14,wrap64 ((wrap64 (a1 + 1)) + x7_11),true)) else (some (0,0,false)))) = some (r1,r2,r3):=by first | (rw [hy355];with_reducible exact H) | (have H2_:=(Option.bind_some _ _).symm.trans H;rw [hy355];with_reducible exact H2_) | (have H2_:=(Option.bind_some _ _).symm.trans H;with_reducible exact H2_) | with_reducible exact H | (rw [hy355];exact H) | exact H
            have Ny355:=aM_ hy355
            clear hy355
            replace H:=oB_ H
            obtain ⟨t358,A200,H⟩:=H
            replace H : (if (t358.length : Int) = (wrap64 (x7_11 + 1)) then (some (x9_14,wrap64 ((wrap64 (a1 + 1)) + x7_11),true)) else (some (0,0,false))) = some (r1,r2,r3):=H
            have A20:=aM_ A200
            clear A200
            by_cases c21 : (t358.length : Int) = (wrap64 (x7_11 + 1))
            ·rw [if_pos c21] at H
             have c21b0 : ((t358.length : Int) == (wrap64 (x7_11 + 1))) = true:=beq_iff_eq.mpr c21
             have c21b1 : ((t358.length : Int) != (wrap64 (x7_11 + 1))) = false:=bne_eq_false_iff_eq.mpr c21
             clear c21
             simp only [Option.some.injEq,Prod.mk.injEq] at H
             obtain ⟨rfl,rfl,rfl⟩:=H
             go_wp2_with (first | (go_at_call 89;(with_reducible refine (spec_l1In.calls x9_14 (-1000000000000000) 1000000000000000 true _ A18.out).mono ?_);rintro e w' ⟨rfl,⟨nd,rfl⟩⟩) | ((with_reducible refine gate_dst (N:=59) rfl ?_);(try (refine gate_guard (by rfl) ?_;dsimp only));refine Kd.R_lit (Kd.int .u8) _ 5 ?hg (N:=59) ?hd (xs:=([] : List Int)) (inner:=[]) (ok:=fun _=>True) (okp:=fun _=>True) ?hr ?hp (fun _ hk=>hk) trivial (Below.refl _ _) (Nat.le_refl _) (by simp) ?_;(case hd=>rfl);(case hg=>rfl);(case hr=>first | (go_simp;done) | (go_simp;rfl));(case hp=>exact (Reps.none _ _));intro v356 w22 ho23 hb hg_ hnew_;clear hg_ hnew_;(first | rw [← Ny355.out] at ho23 | (simp only [Int.reduceToNat] at ho23;rw [← Ny355.out] at ho23));have n0_:=aM_ (Kd.R_lower ho23 (bS_ (by exact bZ_ HB)));have n1_:=aM_ (bT_ (by exact bZ_ HB) hb);clear HB;have HO357:=n0_;have HB:=n1_;clear n0_ n1_;clear hb ho23;obtain ⟨Ao24,co24,eo24⟩:=Kd.R_slice HO357.out;subst eo24) | (go_at_call 94;(with_reducible refine (spec_PutVar.calls kj14 _ _ y355 x9_14 t358 _ ?side1 ?side2 A20.out).mono ?_);(case side1=>repeat (first | exact (Kd.R_reads' HO357.out).2.2 | (with_reducible refine cA_ ?_ _) | (with_reducible refine cN_ ?_ _) | (with_reducible refine cD_ ?_)));(case side2=>exact (Kd.R_reads' HO357.out).2.1);rintro e w25 ⟨v359,rfl,ho0,hb⟩;have n0_:=aM_ (Kd.R_elder' (by exact rZ_ HO357) (Kd.R_base ho0) hb);have n1_:=aM_ (Kd.R_lower (Kd.R_new' ho0 (Kd.R_lt (by exact rZ_ HO357))) (bS_ (by exact bZ_ HB)));have n2_:=aM_ (bT_ (by exact bZ_ HB) hb);clear HO357;clear HB;have HO357:=n0_;have HO360:=n1_;have HB:=n2_;clear n0_ n1_ n2_;(try clear hb);(try clear hb2);(try clear hk);(try clear hi);(try clear ho0);obtain ⟨Ao26,co26,eo26⟩:=Kd.R_slice HO360.out;subst eo26))
             go_ret3
             exact ⟨by first | rfl | (simp [errW_none,errW_some] <;> rfl) | (simp [*, errW_none,errW_some] <;> rfl),by exact bZ_ HB⟩
            ·rw [if_neg c21] at H
             have c21b0 : ((t358.length : Int) == (wrap64 (x7_11 + 1))) = false:=beq_eq_false_iff_ne.mpr c21
             have c21b1 : ((t358.length : Int) != (wrap64 (x7_11 + 1))) = true:=bne_iff_ne.mpr c21
             simp only [Option.some.injEq,Prod.mk.injEq] at H
             obtain ⟨rfl,rfl,rfl⟩:=H
             go_wp2_with (first | (go_at_call 89;(with_reducible refine (spec_l1In.calls x9_14 (-1000000000000000) 1000000000000000 true _ A18.out).mono ?_);rintro e w' ⟨rfl,⟨nd,rfl⟩⟩) | ((with_reducible refine gate_dst (N:=59) rfl ?_);(try (refine gate_guard (by rfl) ?_;dsimp only));refine Kd.R_lit (Kd.int .u8) _ 5 ?hg (N:=59) ?hd (xs:=([] : List Int)) (inner:=[]) (ok:=fun _=>True) (okp:=fun _=>True) ?hr ?hp (fun _ hk=>hk) trivial (Below.refl _ _) (Nat.le_refl _) (by simp) ?_;(case hd=>rfl);(case hg=>rfl);(case hr=>first | (go_simp;done) | (go_simp;rfl));(case hp=>exact (Reps.none _ _));intro v356 w27 ho28 hb hg_ hnew_;clear hg_ hnew_;(first | rw [← Ny355.out] at ho28 | (simp only [Int.reduceToNat] at ho28;rw [← Ny355.out] at ho28));have n0_:=aM_ (Kd.R_lower ho28 (bS_ (by exact bZ_ HB)));have n1_:=aM_ (bT_ (by exact bZ_ HB) hb);clear HB;have HO357:=n0_;have HB:=n1_;clear n0_ n1_;clear hb ho28;obtain ⟨Ao29,co29,eo29⟩:=Kd.R_slice HO357.out;subst eo29) | (go_at_call 94;(with_reducible refine (spec_PutVar.calls kj14 _ _ y355 x9_14 t358 _ ?side1 ?side2 A20.out).mono ?_);(case side1=>repeat (first | exact (Kd.R_reads' HO357.out).2.2 | (with_reducible refine cA_ ?_ _) | (with_reducible refine cN_ ?_ _) | (with_reducible refine cD_ ?_)));(case side2=>exact (Kd.R_reads' HO357.out).2.1);rintro e w30 ⟨v359,rfl,ho0,hb⟩;have n0_:=aM_ (Kd.R_elder' (by exact rZ_ HO357) (Kd.R_base ho0) hb);have n1_:=aM_ (Kd.R_lower (Kd.R_new' ho0 (Kd.R_lt (by exact rZ_ HO357))) (bS_ (by exact bZ_ HB)));have n2_:=aM_ (bT_ (by exact bZ_ HB) hb);clear HO357;clear HB;have HO357:=n0_;have HO360:=n1_;have HB:=n2_;clear n0_ n1_ n2_;(try clear hb);(try clear hb2);(try clear hk);(try clear hi);(try clear ho0);obtain ⟨Ao31,co31,eo31⟩:=Kd.R_slice HO360.out;subst eo31))
             go_ret3
             exact ⟨by first | rfl | (simp [errW_none,errW_some] <;> rfl) | (simp [*, errW_none,errW_some] <;> rfl),by exact bZ_ HB⟩
           ·replace c19:=Bool.eq_false_iff.mpr c19
            subst c19
            have H1 : (some (0,0,false)) = some (r1,r2,r3):=by rw [if_neg (show ¬ (false = true) by decide)] at H;exact H
            clear H
            have H:=H1
            clear H1
            simp only [Option.some.injEq,Prod.mk.injEq] at H
            obtain ⟨rfl,rfl,rfl⟩:=H
            go_wp2_with (first | (go_at_call 89;(with_reducible refine (spec_l1In.calls x9_14 (-1000000000000000) 1000000000000000 false _ A18.out).mono ?_);rintro e w' ⟨rfl,⟨nd,rfl⟩⟩))
            go_ret3
            exact ⟨by first | rfl | (simp [errW_none,errW_some] <;> rfl) | (simp [*, errW_none,errW_some] <;> rfl),by exact bZ_ HB⟩
          ·replace c17:=Bool.eq_false_iff.mpr c17
           subst c17
           have H1 : (some (0,0,false)) = some (r1,r2,r3):=by rw [if_neg (show ¬ (false = true) by decide)] at H;exact H
           clear H
           have H:=H1
           clear H1
           simp only [Option.some.injEq,Prod.mk.injEq] at H
           obtain ⟨rfl,rfl,rfl⟩:=H
           go_wp2
           go_ret3
           exact ⟨by first | rfl | (simp [errW_none,errW_some] <;> rfl) | (simp [*, errW_none,errW_some] <;> rfl),by exact bZ_ HB⟩
     ·rw [if_neg c11] at H
      exact absurd H (by simp)
    ·rw [if_neg c10] at H
     exact absurd H (by simp)
end Go.Proofs.Ytllgmgpfdnofmaa.PFnRowsRead
