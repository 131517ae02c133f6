import Derived.Test.YtllgmgpfdnofmaaZRRPFnRowsReadx0
import Derived.Test.YtllgmgpfdnofmaaZRRPFnRowsReadx1
import Derived.Test.YtllgmgpfdnofmaaZRRPFnRowsReadx2
import Derived.Test.YtllgmgpfdnofmaaZRRPFnRowsReadx3
import Derived.Test.YtllgmgpfdnofmaaZRRPFnRowsReadx4
namespace Go.Proofs.Ytllgmgpfdnofmaa.PFnRowsRead
open Go.RowKit Go.Proofs.YtllgmgpfdnofmaaW.PrintWords Go.Proofs.YtllgmgpfdnofmaaW.PrintLast Go.Proofs.YtllgmgpfdnofmaaW.PrintMore Go.Proofs.Ytllgmgpfdnofmaa.Xtra
attribute [local go_sem] max2_int min2_int max_two min_two max_three min_three max_four min_four str_leq str_gtr str_geq setCell_drewN cell_set2 cell_set3   -- for this text's walks alone
set_option linter.unusedVariables false
set_option linter.unusedSimpArgs false
mutual
def impl_GetVar.j0 : Nat → List Int → Int → Bool → Option (Int × Int × Bool)
 | 0,_,_,_=>none
 | k + 1,x0,x1,x18=>if x18 = true then (some (0,0,false)) else (if 0 ≤ x1 then (if x1 < (x0.length : Int) then (if (wrap64 ((wrap64 (rd x0 x1)) - 128)) < 0 then (impl_GetVar.j1 k x0 x1 (wrap64 (127 - (wrap64 (rd x0 x1)))) 255) else (impl_GetVar.j1 k x0 x1 (wrap64 ((wrap64 (rd x0 x1)) - 128)) 0)) else (none)) else (none))
def impl_GetVar.j1 : Nat → List Int → Int → Int → Int → Option (Int × Int × Bool)
 | 0,_,_,_,_=>none
 | k + 1,x0,x1,x7,x8=>if x7 > 7 then (some (0,0,false)) else ((impl_numberAt.f k x0 (wrap64 (x1 + 1)) x7 x8).bind fun bt214=>(if bt214.2 = true then ((impl_bytesOf.f k bt214.1).bind fun t216=>(impl_GetVar.j2 k x1 x7 x8 bt214.1 (t216 != x7))) else (impl_GetVar.j2 k x1 x7 x8 bt214.1 true)))
def impl_GetVar.j2 : Nat → Int → Int → Int → Int → Bool → Option (Int × Int × Bool)
 | 0,_,_,_,_,_=>none
 | k + 1,x1,x7,x8,x9,x51=>if x51 = true then (some (0,0,false)) else (if x8 = 0 then ((impl_in.f x9 (-1000000000000000) 1000000000000000).bind fun t217=>(if t217 = true then (some (x9,wrap64 ((wrap64 (x1 + 1)) + x7),true)) else (some (0,0,false)))) else ((impl_in.f (wrap64 ((-1) - x9)) (-1000000000000000) 1000000000000000).bind fun t218=>(if t218 = true then (some (wrap64 ((-1) - x9),wrap64 ((wrap64 (x1 + 1)) + x7),true)) else (some (0,0,false)))))
end
def impl_GetVar.f (k : Nat) (l0 : List Int) (a1 : Int) : Option (Int × Int × Bool):=if a1 < 0 then (impl_GetVar.j0 k l0 a1 true) else (impl_GetVar.j0 k l0 a1 (decide (a1 ≥ (l0.length : Int))))
theorem impl_GetVar.mono_l : ∀ k,(∀ y0 y1 y2,LeO (impl_GetVar.j0 k y0 y1 y2) (impl_GetVar.j0 (k + 1) y0 y1 y2)) ∧ (∀ y0 y1 y2 y3,LeO (impl_GetVar.j1 k y0 y1 y2 y3) (impl_GetVar.j1 (k + 1) y0 y1 y2 y3)) ∧ (∀ y0 y1 y2 y3 y4,LeO (impl_GetVar.j2 k y0 y1 y2 y3 y4) (impl_GetVar.j2 (k + 1) y0 y1 y2 y3 y4))
 | 0=>⟨fun _ _ _ r h=>by simp [impl_GetVar.j0] at h,fun _ _ _ _ r h=>by simp [impl_GetVar.j1] at h,fun _ _ _ _ _ r h=>by simp [impl_GetVar.j2] at h⟩
 | k + 1=>by
  obtain ⟨ih0,ih1,ih2⟩:=impl_GetVar.mono_l k
  refine ⟨?_,?_,?_⟩
  ·intro y0 y1 y2
   unfold impl_GetVar.j0
   repeat' first
   | (with_reducible exact ih0 _ _ _)
   | (with_reducible exact ih1 _ _ _ _)
   | (with_reducible exact ih2 _ _ _ _ _)
   | (with_reducible exact impl_bytesOf.mono _ _)
   | (with_reducible exact impl_numberAt.mono _ _ _ _ _)
   | (with_reducible exact LeO.refl _)
   | (with_reducible exact LeO.none _)
   | (with_reducible refine LeO.ite ?_ ?_)
   | (with_reducible refine LeO.bind ?_ (fun _=>?_))
   | exact ih0 _ _ _
   | exact ih1 _ _ _ _
   | exact ih2 _ _ _ _ _
   | exact impl_bytesOf.mono _ _
   | exact impl_numberAt.mono _ _ _ _ _
   | exact LeO.none _
   | refine LeO.ite ?_ ?_
   | refine LeO.bind ?_ (fun _=>?_)
  ·intro y0 y1 y2 y3
   unfold impl_GetVar.j1
   repeat' first
   | (with_reducible exact ih0 _ _ _)
   | (with_reducible exact ih1 _ _ _ _)
   | (with_reducible exact ih2 _ _ _ _ _)
   | (with_reducible exact impl_bytesOf.mono _ _)
   | (with_reducible exact impl_numberAt.mono _ _ _ _ _)
   | (with_reducible exact LeO.refl _)
   | (with_reducible exact LeO.none _)
   | (with_reducible refine LeO.ite ?_ ?_)
   | (with_reducible refine LeO.bind ?_ (fun _=>?_))
   | exact ih0 _ _ _
   | exact ih1 _ _ _ _
   | exact ih2 _ _ _ _ _
   | exact impl_bytesOf.mono _ _
   | exact impl_numberAt.mono _ _ _ _ _
   | exact LeO.none _
   | refine LeO.ite ?_ ?_
   | refine LeO.bind ?_ (fun _=>?_)
  ·intro y0 y1 y2 y3 y4
   unfold impl_GetVar.j2
   repeat' first
   | (with_reducible exact ih0 _ _ _)
   | (with_reducible exact ih1 _ _ _ _)
   | (with_reducible exact ih2 _ _ _ _ _)
   | (with_reducible exact impl_bytesOf.mono _ _)
   | (with_reducible exact impl_numberAt.mono _ _ _ _ _)
   | (with_reducible exact LeO.refl _)
   | (with_reducible exact LeO.none _)
   | (with_reducible refine LeO.ite ?_ ?_)
   | (with_reducible refine LeO.bind ?_ (fun _=>?_))
   | exact ih0 _ _ _
   | exact ih1 _ _ _ _
   | exact ih2 _ _ _ _ _
   | exact impl_bytesOf.mono _ _
   | exact impl_numberAt.mono _ _ _ _ _
   | exact LeO.none _
   | refine LeO.ite ?_ ?_
   | refine LeO.bind ?_ (fun _=>?_)
theorem impl_GetVar.mono : ∀ a0 a1 k,LeO (impl_GetVar.f k a0 a1) (impl_GetVar.f (k + 1) a0 a1):=by
 intro a0 a1 k
 obtain ⟨ih0,ih1,ih2⟩:=impl_GetVar.mono_l k
 unfold impl_GetVar.f
 repeat' first
   | (with_reducible exact ih0 _ _ _)
   | (with_reducible exact ih1 _ _ _ _)
   | (with_reducible exact ih2 _ _ _ _ _)
   | (with_reducible exact impl_bytesOf.mono _ _)
   | (with_reducible exact impl_numberAt.mono _ _ _ _ _)
   | (with_reducible exact LeO.refl _)
   | (with_reducible exact LeO.none _)
   | (with_reducible refine LeO.ite ?_ ?_)
   | (with_reducible refine LeO.bind ?_ (fun _=>?_))
   | exact ih0 _ _ _
   | exact ih1 _ _ _ _
   | exact ih2 _ _ _ _ _
   | exact impl_bytesOf.mono _ _
   | exact impl_numberAt.mono _ _ _ _ _
   | exact LeO.none _
   | refine LeO.ite ?_ ?_
   | refine LeO.bind ?_ (fun _=>?_)
set_option maxHeartbeats 8000000 in
set_option maxRecDepth 100000 in
theorem impl_GetVar.calls (k : Nat) (A0 : Option Addr) (c0 : Nat) (l0 : List Int) (a1 : Int) (r1 : Int) (r2 : Int) (r3 : Bool) (w : World) (hr0 : Kd.C (Kd.int .u8) w A0 l0.length l0) (hc0 : l0.length ≤ c0) (h : impl_GetVar.f k l0 a1 = some (r1,r2,r3)) :
  Calls Try.prog 165 #[.slice A0 l0.length c0,.int .i64 a1] w fun e w'=>e = .returned (.tuple #[.int .i64 r1,.int .i64 r2,.bool r3]) ∧ Drawn0 w w':=by
 have HR0:=aM_ hr0
 have HC0:=aM_ hc0
 clear hr0 hc0
 have H : (if a1 < 0 then (impl_GetVar.j0 k l0 a1 true) else (impl_GetVar.j0 k l0 a1 (decide (a1 ≥ (l0.length : Int))))) = some (r1,r2,r3):=h
 clear h
 have HC3:=aM_ H
 clear H
 go_enter Try.func165,Try.ntmps165
 go_upto_region 1 with (fail)
 go_cut [18] (fun v18 wc=>∃ (kq : Nat) (x18_2 : Bool),v18 = .bool x18_2 ∧ Aside0 (impl_GetVar.j0 kq l0 a1 x18_2 = some (r1,r2,r3)) ∧ Aside0 (kq ≤ k) ∧ Drawn0 w wc)
 case first =>
  have H:=HC3.out
  clear HC3
  by_cases c4 : a1 < 0
  ·rw [if_pos c4] at H
   have c4b0 : decide (a1 < 0) = true:=decide_eq_true c4
   clear c4
   (first | rw [c4b0] | (simp only [i64_w,i32_w];rw [c4b0]) | skip)
   have H':=aM_ H
   clear H
   go_wp2
   (first | go_meet | (refine Met.intro ?_;go_step;(repeat apply Exists.intro);refine ⟨?rel,?eq⟩;(case eq=>(try simp only [c6b0]);(try simp only [c6b0]);(try simp only [c4b0]);rfl)))
   case rel=>exact ⟨_,(true),(by first | rfl | (simp;done) | (simp [*];done)),H', ⟨by first | omega | exact Nat.le_refl _⟩,by repeat (first | exact Drawn0.refl _ | apply Drawn0.step)⟩
  ·rw [if_neg c4] at H
   have c4b0 : decide (a1 < 0) = false:=decide_eq_false c4
   clear c4
   (first | rw [c4b0] | (simp only [i64_w,i32_w];rw [c4b0]) | skip)
   have H':=aM_ H
   clear H
   go_wp2
   (first | go_meet | (refine Met.intro ?_;go_step;(repeat apply Exists.intro);refine ⟨?rel,?eq⟩;(case eq=>(try simp only [c6b0]);(try simp only [c4b0]);(try simp only [c4b0]);rfl)))
   case rel=>exact ⟨_,(decide (a1 ≥ (l0.length : Int))),(by first | rfl | (simp;done) | (simp [*];done)),H', ⟨by first | omega | exact Nat.le_refl _⟩,by repeat (first | exact Drawn0.refl _ | apply Drawn0.step)⟩
 case rest =>
  clear HC3
  try clear c1
  try clear p2
  try clear c4
  try clear c4b0
  obtain ⟨kq,x18_2,rfl,HA,HJ2,⟨mc2,rfl⟩⟩:=hcut
  cases kq with
  | zero=>exact absurd HA.out (by simp [impl_GetVar.j0])
  | succ kj2 =>
   have H:=HA.out
   clear HA
   simp only [impl_GetVar.j0] at H
   by_cases c5 : x18_2 = true
   ·subst c5
    have H1 : (some (0,0,false)) = some (r1,r2,r3):=by rw [if_pos rfl] at H;exact H
    clear H
    have H:=H1
    clear H1
    simp only [Option.some.injEq,Prod.mk.injEq] at H
    obtain ⟨rfl,rfl,rfl⟩:=H
    go_wp2
    go_ret3
    exact ⟨by first | rfl | (simp;done) | (simp [*];done),by repeat (first | exact Drawn0.refl _ | apply Drawn0.step)⟩
   ·replace c5:=Bool.eq_false_iff.mpr c5
    subst c5
    have H1 : (if 0 ≤ a1 then (if a1 < (l0.length : Int) then (if (wrap64 ((wrap64 (rd l0 a1)) - 128)) < 0 then (impl_GetVar.j1 kj2 l0 a1 (wrap64 (127 - (wrap64 (rd l0 a1)))) 255) else (impl_GetVar.j1 kj2 l0 a1 (wrap64 ((wrap64 (rd l0 a1)) - 128)) 0)) else (none)) else (none)) = some (r1,r2,r3):=by rw [if_neg (show ¬ (false = true) by decide)] at H;exact H
    clear H
    have H:=H1
    clear H1
    by_cases c6 : 0 ≤ a1
    ·rw [if_pos c6] at H
     have c6b0 : decide (0 ≤ a1) = true:=decide_eq_true c6
     clear c6
     by_cases c7 : a1 < (l0.length : Int)
     ·rw [if_pos c7] at H
      have c7b0 : decide (a1 < (l0.length : Int)) = true:=decide_eq_true c7
      clear c7
      have HC8:=aM_ H
      clear H
      have p212 : 0 ≤ (a1 : Int):=oT_ (by first | (with_reducible assumption) | assumption)
      have q212 : a1 < (l0.length : Int):=oT_ (by first | (with_reducible assumption) | assumption)
      obtain ⟨ad212,e212,hx212_0⟩:=Kd.at_int HR0.out a1 p212 q212
      cases e212
      replace p212:=eq_true p212
      replace q212:=eq_true q212
      go_upto_if 26 with (fail)
      go_cut [7,8] (fun v7 v8 wc=>∃ (kq : Nat) (x7_7 : Int) (x8_7 : Int),v7 = .int .i64 x7_7 ∧ v8 = .int .u8 x8_7 ∧ Aside0 (impl_GetVar.j1 kq l0 a1 x7_7 x8_7 = some (r1,r2,r3)) ∧ Aside0 (kq ≤ kj2) ∧ Drawn0 w wc)
      case first =>
       have H:=HC8.out
       clear HC8
       by_cases c9 : (wrap64 ((wrap64 (rd l0 a1)) - 128)) < 0
       ·rw [if_pos c9] at H
        have c9b0 : decide ((wrap64 ((wrap64 (rd l0 a1)) - 128)) < 0) = true:=decide_eq_true c9
        clear c9
        (first | rw [c9b0] | (simp only [i64_w,i32_w];rw [c9b0]) | skip)
        have H':=aM_ H
        clear H
        have p213 : 0 ≤ (a1 : Int):=oT_ (by first | (with_reducible assumption) | assumption)
        have q213 : a1 < (l0.length : Int):=oT_ (by first | (with_reducible assumption) | assumption)
        obtain ⟨ad213,e213,hx213_0⟩:=Kd.at_int HR0.out a1 p213 q213
        obtain rfl : ad212 = ad213:=(by injection e213)
        replace p213:=eq_true p213
        replace q213:=eq_true q213
        go_wp2
        (first | go_meet | (refine Met.intro ?_;go_step;(repeat apply Exists.intro);refine ⟨?rel,?eq⟩;(case eq=>(try simp only [c4b0]);(try simp only [c4b0]);(try simp only [c9b0]);rfl)))
        case rel=>exact ⟨_,(wrap64 (127 - (wrap64 (rd l0 a1)))),(255),(by first | rfl | (simp;done) | (simp [*];done)),(by first | rfl | (simp;done) | (simp [*];done)),H', ⟨by have:=HJ2.out;first | omega | exact Nat.le_refl _⟩,by repeat (first | exact Drawn0.refl _ | apply Drawn0.step)⟩
       ·rw [if_neg c9] at H
        have c9b0 : decide ((wrap64 ((wrap64 (rd l0 a1)) - 128)) < 0) = false:=decide_eq_false c9
        clear c9
        (first | rw [c9b0] | (simp only [i64_w,i32_w];rw [c9b0]) | skip)
        have H':=aM_ H
        clear H
        go_wp2
        (first | go_meet | (refine Met.intro ?_;go_step;(repeat apply Exists.intro);refine ⟨?rel,?eq⟩;(case eq=>(try simp only [c4b0]);(try simp only [c9b0]);(try simp only [c9b0]);rfl)))
        case rel=>exact ⟨_,(wrap64 ((wrap64 (rd l0 a1)) - 128)),(0),(by first | rfl | (simp;done) | (simp [*];done)),(by first | rfl | (simp;done) | (simp [*];done)),H', ⟨by have:=HJ2.out;first | omega | exact Nat.le_refl _⟩,by repeat (first | exact Drawn0.refl _ | apply Drawn0.step)⟩
      case rest =>
       clear HC8
       try clear c1
       try clear c2
       try clear p2
       try clear q2
       try clear hx2
       try clear c4
       try clear c4b0
       try clear c5
       try clear c6
       try clear c6b0
       try clear p6
       try clear c7
       try clear c7b0
       try clear c9
       try clear c9b0
       try clear hx212_0
       try clear hx213_0
       try clear p2
       try clear p212
       try clear p213
       try clear q212
       try clear q213
       obtain ⟨kq,x7_7,x8_7,rfl,rfl,HA,HJ7,⟨mc7,rfl⟩⟩:=hcut
       cases kq with
       | zero=>exact absurd HA.out (by simp [impl_GetVar.j1])
       | succ kj7 =>
        have H:=HA.out
        clear HA
        simp only [impl_GetVar.j1] at H
        by_cases c10 : x7_7 > 7
        ·rw [if_pos c10] at H
         have c10b0 : decide (7 < x7_7) = true:=decide_eq_true c10
         clear c10
         simp only [Option.some.injEq,Prod.mk.injEq] at H
         obtain ⟨rfl,rfl,rfl⟩:=H
         go_wp2
         go_ret3
         exact ⟨by first | rfl | (simp;done) | (simp [*];done),by repeat (first | exact Drawn0.refl _ | apply Drawn0.step)⟩
        ·rw [if_neg c10] at H
         have c10b0 : decide (7 < x7_7) = false:=decide_eq_false c10
         clear c10
         replace H:=oB_ H
         obtain ⟨⟨t214,t215⟩,A110,H⟩:=H
         replace H : (if t215 = true then ((impl_bytesOf.f kj7 t214).bind fun t216=>(impl_GetVar.j2 kj7 a1 x7_7 x8_7 t214 (t216 != x7_7))) else (impl_GetVar.j2 kj7 a1 x7_7 x8_7 t214 true)) = some (r1,r2,r3):=H
         have A11:=aM_ A110
         clear A110
         have HC12:=aM_ H
         clear H
         go_upto_region 9 with (first | ((with_reducible refine gate_callee (f:=183) rfl ?_);refine goesL_ (some 41) rfl rfl Try.func183 (by kernel_rfl) rfl #[.slice (some ad212) l0.length c0,.int .i64 (wrap64 (a1 + 1)),.int .i64 x7_7,.int .u8 x8_7] rfl (by (try simp only [mA_,mC_,mN_]);first | done | rfl | (simp only [lD_,lT_];rfl)) ?_;(with_reducible refine (impl_numberAt.calls kj7 _ _ l0 (wrap64 (a1 + 1)) x7_7 x8_7 t214 t215 _ ?side1 ?side2 A11.out).mono ?_);(case side1=>repeat (first | exact HR0.out | (with_reducible refine cA_ ?_ _) | (with_reducible refine cN_ ?_ _) | (with_reducible refine cD_ ?_)));(case side2=>exact HC0.out);rintro e w' ⟨rfl,⟨nd,rfl⟩⟩;refine ⟨_,rfl,?_⟩))
         (try simp only [Act.put,sI_,sZ_,sS_])
         go_cut [51] (fun v51 wc=>∃ (kq : Nat) (x51_11 : Bool),v51 = .bool x51_11 ∧ Aside0 (impl_GetVar.j2 kq a1 x7_7 x8_7 t214 x51_11 = some (r1,r2,r3)) ∧ Aside0 (kq ≤ kj7) ∧ Drawn0 w wc)
         case first =>
          have H:=HC12.out
          clear HC12
          by_cases c13 : t215 = true
          ·subst c13
           have H1 : ((impl_bytesOf.f kj7 t214).bind fun t216=>(impl_GetVar.j2 kj7 a1 x7_7 x8_7 t214 (t216 != x7_7))) = some (r1,r2,r3):=by rw [if_pos rfl] at H;exact H
           clear H
           have H:=H1
           clear H1
           replace H:=oB_ H
           obtain ⟨t216,A140,H⟩:=H
           replace H : (impl_GetVar.j2 kj7 a1 x7_7 x8_7 t214 (t216 != x7_7)) = some (r1,r2,r3):=H
           have A14:=aM_ A140
           clear A140
           have H':=aM_ H
           clear H
           go_wp2_with (first | (go_at_call 150;(with_reducible refine (impl_bytesOf.calls kj7 t214 t216 _ A14.out).mono ?_);rintro e w' ⟨rfl,⟨nd,rfl⟩⟩))
           (first | go_meet | (refine Met.intro ?_;go_step;(repeat apply Exists.intro);refine ⟨?rel,?eq⟩;(case eq=>(try simp only [c4b0]);(try simp only [c9b0]);(try simp only [c9b0]);rfl)))
           case rel=>exact ⟨_,((t216 != x7_7)),(by first | rfl | (simp;done) | (simp [*];done)),H', ⟨by have:=HJ2.out;have:=HJ7.out;first | omega | exact Nat.le_refl _⟩,by repeat (first | exact Drawn0.refl _ | apply Drawn0.step)⟩
          ·replace c13:=Bool.eq_false_iff.mpr c13
           subst c13
           have H1 : (impl_GetVar.j2 kj7 a1 x7_7 x8_7 t214 true) = some (r1,r2,r3):=by rw [if_neg (show ¬ (false = true) by decide)] at H;exact H
           clear H
           have H:=H1
           clear H1
           have H':=aM_ H
           clear H
           go_wp2
           (first | go_meet | (refine Met.intro ?_;go_step;(repeat apply Exists.intro);refine ⟨?rel,?eq⟩;(case eq=>(try simp only [c4b0]);(try simp only [c9b0]);(try simp only [c9b0]);rfl)))
           case rel=>exact ⟨_,(true),(by first | rfl | (simp;done) | (simp [*];done)),H', ⟨by have:=HJ2.out;have:=HJ7.out;first | omega | exact Nat.le_refl _⟩,by repeat (first | exact Drawn0.refl _ | apply Drawn0.step)⟩
         case rest =>
          clear HC12
          try clear c1
          try clear c2
          try clear p2
          try clear q2
          try clear hx2
          try clear c4
          try clear c4b0
          try clear c5
          try clear c6
          try clear c6b0
          try clear p6
          try clear c7
          try clear c7b0
          try clear c9
          try clear c9b0
          try clear c10
          try clear c10b0
          try clear c13
          try clear hx212_0
          try clear hx213_0
          try clear p2
          try clear p212
          try clear p213
          try clear p6
          try clear q2
          try clear q212
          try clear q213
          obtain ⟨kq,x51_11,rfl,HA,HJ11,⟨mc11,rfl⟩⟩:=hcut
          cases kq with
          | zero=>exact absurd HA.out (by simp [impl_GetVar.j2])
          | succ kj11 =>
           have H:=HA.out
           clear HA
           simp only [impl_GetVar.j2] at H
           by_cases c15 : x51_11 = true
           ·subst c15
            have H1 : (some (0,0,false)) = some (r1,r2,r3):=by rw [if_pos rfl] at H;exact H
            clear H
            have H:=H1
            clear H1
            simp only [Option.some.injEq,Prod.mk.injEq] at H
            obtain ⟨rfl,rfl,rfl⟩:=H
            go_wp2
            go_ret3
            exact ⟨by first | rfl | (simp;done) | (simp [*];done),by repeat (first | exact Drawn0.refl _ | apply Drawn0.step)⟩
           ·replace c15:=Bool.eq_false_iff.mpr c15
            subst c15
            have H1 : (if x8_7 = 0 then ((impl_in.f t214 (-1000000000000000) 1000000000000000).bind fun t217=>(if t217 = true then (some (t214,wrap64 ((wrap64 (a1 + 1)) + x7_7),true)) else (some (0,0,false)))) else ((impl_in.f (wrap64 ((-1) - t214)) (-1000000000000000) 1000000000000000).bind fun t218=>(if t218 = true then (some (wrap64 ((-1) - t214),wrap64 ((wrap64 (a1 + 1)) + x7_7),true)) else (some (0,0,false))))) = some (r1,r2,r3):=by rw [if_neg (show ¬ (false = true) by decide)] at H;exact H
            clear H
            have H:=H1
            clear H1
            by_cases c16 : x8_7 = 0
            ·rw [if_pos c16] at H
             have c16b0 : (x8_7 == 0) = true:=beq_iff_eq.mpr c16
             have c16b1 : (x8_7 != 0) = false:=bne_eq_false_iff_eq.mpr c16
             clear c16
             replace H:=oB_ H
             obtain ⟨t217,A170,H⟩:=H
             replace H : (if t217 = true then (some (t214,wrap64 ((wrap64 (a1 + 1)) + x7_7),true)) else (some (0,0,false))) = some (r1,r2,r3):=H
             have A17:=aM_ A170
             clear A170
             by_cases c18 : t217 = true
             ·subst c18
              have H1 : (some (t214,wrap64 ((wrap64 (a1 + 1)) + x7_7),true)) = some (r1,r2,r3):=by rw [if_pos rfl] at H;exact H
              clear H
              have H:=H1
              clear H1
              simp only [Option.some.injEq,Prod.mk.injEq] at H
              obtain ⟨rfl,rfl,rfl⟩:=H
              go_wp2_with (first | ((with_reducible refine gate_callee (f:=79) rfl ?_);refine goesL_ (some 57) rfl rfl Try.func79 (by kernel_rfl) rfl #[.int .i64 t214,.int .i64 (-1000000000000000),.int .i64 1000000000000000] rfl (by (try simp only [mA_,mC_,mN_]);first | done | rfl | (simp only [lD_,lT_];rfl)) ?_;(with_reducible refine (impl_in.calls t214 (-1000000000000000) 1000000000000000 true _ A17.out).mono ?_);rintro e w' ⟨rfl,⟨nd,rfl⟩⟩;refine ⟨_,rfl,?_⟩))
              go_ret3
              exact ⟨by first | rfl | (simp;done) | (simp [*];done),by repeat (first | exact Drawn0.refl _ | apply Drawn0.step)⟩
             ·replace c18:=Bool.eq_false_iff.mpr c18
              subst c18
              have H1 : (some (0,0,false)) = some (r1,r2,r3):=by rw [if_neg (show ¬ (false = true) by decide)] at H;exact H
              clear H
              have H:=H1
              clear H1
              simp only [Option.some.injEq,Prod.mk.injEq] at H
              obtain ⟨rfl,rfl,rfl⟩:=H
              go_wp2_with (first | ((with_reducible refine gate_callee (f:=79) rfl ?_);refine goesL_ (some 57) rfl rfl Try.func79 (by kernel_rfl) rfl #[.int .i64 t214,.int .i64 (-1000000000000000),.int .i64 1000000000000000] rfl (by (try simp only [mA_,mC_,mN_]);first | done | rfl | (simp only [lD_,lT_];rfl)) ?_;(with_reducible refine (impl_in.calls t214 (-1000000000000000) 1000000000000000 false _ A17.out).mono ?_);rintro e w' ⟨rfl,⟨nd,rfl⟩⟩;refine ⟨_,rfl,?_⟩))
              go_ret3
              exact ⟨by first | rfl | (simp;done) | (simp [*];done),by repeat (first | exact Drawn0.refl _ | apply Drawn0.step)⟩
            ·rw [if_neg c16] at H
             have c16b0 : (x8_7 == 0) = false:=beq_eq_false_iff_ne.mpr c16
             have c16b1 : (x8_7 != 0) = true:=bne_iff_ne.mpr c16
             replace H:=oB_ H
             obtain ⟨t218,A190,H⟩:=H
             replace H : (if t218 = true then (some (wrap64 ((-1) - t214),wrap64 ((wrap64 (a1 + 1)) + x7_7),true)) else (some (0,0,false))) = some (r1,r2,r3):=H
             have A19:=aM_ A190
             clear A190
             by_cases c20 : t218 = true
             ·subst c20
              have H1 : (some (wrap64 ((-1) - t214),wrap64 ((wrap64 (a1 + 1)) + x7_7),true)) = some (r1,r2,r3):=by rw [if_pos rfl] at H;exact H
              clear H
              have H:=H1
              clear H1
              simp only [Option.some.injEq,Prod.mk.injEq] at H
              obtain ⟨rfl,rfl,rfl⟩:=H
              go_wp2_with (first | ((with_reducible refine gate_callee (f:=79) rfl ?_);refine goesL_ (some 57) rfl rfl Try.func79 (by kernel_rfl) rfl #[.int .i64 (wrap64 ((-1) - t214)),.int .i64 (-1000000000000000),.int .i64 1000000000000000] rfl (by (try simp only [mA_,mC_,mN_]);first | done | rfl | (simp only [lD_,lT_];rfl)) ?_;(with_reducible refine (impl_in.calls (wrap64 ((-1) - t214)) (-1000000000000000) 1000000000000000 true _ A19.out).mono ?_);rintro e w' ⟨rfl,⟨nd,rfl⟩⟩;refine ⟨_,rfl,?_⟩))
              go_ret3
              exact ⟨by first | rfl | (simp;done) | (simp [*];done),by repeat (first | exact Drawn0.refl _ | apply Drawn0.step)⟩
             ·replace c20:=Bool.eq_false_iff.mpr c20
              subst c20
              have H1 : (some (0,0,false)) = some (r1,r2,r3):=by rw [if_neg (show ¬ (false = true) by decide)] at H;exact H
              clear H
              have H:=H1
              clear H1
              simp only [Option.some.injEq,Prod.mk.injEq] at H
              obtain ⟨rfl,rfl,rfl⟩:=H
              go_wp2_with (first | ((with_reducible refine gate_callee (f:=79) rfl ?_);refine goesL_ (some 57) rfl rfl Try.func79 (by kernel_rfl) rfl #[.int .i64 (wrap64 ((-1) - t214)),.int .i64 (-1000000000000000),.int .i64 1000000000000000] rfl (by (try simp only [mA_,mC_,mN_]);first | done | rfl | (simp only [lD_,lT_];rfl)) ?_;(with_reducible refine (impl_in.calls (wrap64 ((-1) - t214)) (-1000000000000000) 1000000000000000 false _ A19.out).mono ?_);rintro e w' ⟨rfl,⟨nd,rfl⟩⟩;refine ⟨_,rfl,?_⟩))
              go_ret3
              exact ⟨by first | rfl | (simp;done) | (simp [*];done),by repeat (first | exact Drawn0.refl _ | apply Drawn0.step)⟩
     ·rw [if_neg c7] at H
      exact absurd H (by simp)
    ·rw [if_neg c6] at H
     exact absurd H (by simp)
def impl_valueAt.j0 : Nat → List Int → Int → Bool → Int → Bool → Int → Int → ByteArray → Option (Int × Int × ByteArray × Int × Bool)
 | 0,_,_,_,_,_,_,_,_=>none
 | k + 1,x0,x8,x9,x23,x24,x224000,x224001,x224002=>if x24 = true then ((impl_GetVar.f k x0 x8).bind fun bt224=>(some (x224000,bt224.1,x224002,bt224.2.1,bt224.2.2))) else (if x23 = 3 then ((impl_GetText.f k x0 x8).bind fun bt227=>(some (x224000,x224001,bt227.1,bt227.2.1,bt227.2.2))) else (if x23 = 4 then (if x8 ≥ (x0.length : Int) then (some (0,0,(⟨#[]⟩ : ByteArray),0,false)) else (if 0 ≤ x8 then (if x8 < (x0.length : Int) then (some (x224000,wrap64 (rd x0 x8),x224002,wrap64 (x8 + 1),x9)) else (none)) else (none))) else (some (x224000,x224001,x224002,x8,x9))))
def impl_valueAt.f (k : Nat) (l0 : List Int) (a1 : Int) : Option (Int × Int × ByteArray × Int × Bool):=(impl_GetU.f k l0 a1).bind fun bt220=>(if bt220.2.2 = true then (if bt220.1 = 1 then (impl_valueAt.j0 k l0 bt220.2.1 bt220.2.2 bt220.1 (bt220.1 == 1) bt220.1 0 (⟨#[]⟩ : ByteArray)) else (impl_valueAt.j0 k l0 bt220.2.1 bt220.2.2 bt220.1 (bt220.1 == 2) bt220.1 0 (⟨#[]⟩ : ByteArray))) else (some (0,0,(⟨#[]⟩ : ByteArray),0,false)))
theorem impl_valueAt.mono_l : ∀ k,(∀ y0 y1 y2 y3 y4 y5 y6 y7,LeO (impl_valueAt.j0 k y0 y1 y2 y3 y4 y5 y6 y7) (impl_valueAt.j0 (k + 1) y0 y1 y2 y3 y4 y5 y6 y7))
 | 0=>fun _ _ _ _ _ _ _ _ r h=>by simp [impl_valueAt.j0] at h
 | k + 1=>by
  have ih0:=impl_valueAt.mono_l k
  ·intro y0 y1 y2 y3 y4 y5 y6 y7
   unfold impl_valueAt.j0
   repeat' first
   | (with_reducible exact ih0 _ _ _ _ _ _ _ _)
   | (with_reducible exact impl_GetText.mono _ _ _)
   | (with_reducible exact impl_GetU.mono _ _ _)
   | (with_reducible exact impl_GetVar.mono _ _ _)
   | (with_reducible exact LeO.refl _)
   | (with_reducible exact LeO.none _)
   | (with_reducible refine LeO.ite ?_ ?_)
   | (with_reducible refine LeO.bind ?_ (fun _=>?_))
   | exact ih0 _ _ _ _ _ _ _ _
   | exact impl_GetText.mono _ _ _
   | exact impl_GetU.mono _ _ _
   | exact impl_GetVar.mono _ _ _
   | exact LeO.none _
   | refine LeO.ite ?_ ?_
   | refine LeO.bind ?_ (fun _=>?_)
theorem impl_valueAt.mono : ∀ a0 a1 k,LeO (impl_valueAt.f k a0 a1) (impl_valueAt.f (k + 1) a0 a1):=by
 intro a0 a1 k
 have ih0:=impl_valueAt.mono_l k
 unfold impl_valueAt.f
 repeat' first
   | (with_reducible exact ih0 _ _ _ _ _ _ _ _)
   | (with_reducible exact impl_GetText.mono _ _ _)
   | (with_reducible exact impl_GetU.mono _ _ _)
   | (with_reducible exact impl_GetVar.mono _ _ _)
   | (with_reducible exact LeO.refl _)
   | (with_reducible exact LeO.none _)
   | (with_reducible refine LeO.ite ?_ ?_)
   | (with_reducible refine LeO.bind ?_ (fun _=>?_))
   | exact ih0 _ _ _ _ _ _ _ _
   | exact impl_GetText.mono _ _ _
   | exact impl_GetU.mono _ _ _
   | exact impl_GetVar.mono _ _ _
   | exact LeO.none _
   | refine LeO.ite ?_ ?_
   | refine LeO.bind ?_ (fun _=>?_)
set_option maxHeartbeats 8000000 in
set_option maxRecDepth 100000 in
theorem impl_valueAt.calls (k : Nat) (A0 : Option Addr) (c0 : Nat) (l0 : List Int) (a1 : Int) (r1 : Int) (r2 : Int) (r3 : ByteArray) (r4 : Int) (r5 : Bool) (w : World) (hr0 : Kd.C (Kd.int .u8) w A0 l0.length l0) (hc0 : l0.length ≤ c0) (h : impl_valueAt.f k l0 a1 = some (r1,r2,r3,r4,r5)) :
  Calls Try.prog 115 #[.slice A0 l0.length c0,.int .i64 a1] w fun e w'=>e = .returned (.tuple #[.agg #[.int .i64 r1,.int .i64 r2,.string r3],.int .i64 r4,.bool r5]) ∧ Below w.heap.size w w':=by
 have hu116:=Try.underlying116
 have HR0:=aM_ hr0
 have HC0:=aM_ hc0
 clear hr0 hc0
 have HB:=aM_ (Below.refl w.heap.size w)
 have H : ((impl_GetU.f k l0 a1).bind fun bt220=>(if bt220.2.2 = true then (if bt220.1 = 1 then (impl_valueAt.j0 k l0 bt220.2.1 bt220.2.2 bt220.1 (bt220.1 == 1) bt220.1 0 (⟨#[]⟩ : ByteArray)) else (impl_valueAt.j0 k l0 bt220.2.1 bt220.2.2 bt220.1 (bt220.1 == 2) bt220.1 0 (⟨#[]⟩ : ByteArray))) else (some (0,0,(⟨#[]⟩ : ByteArray),0,false)))) = some (r1,r2,r3,r4,r5):=h
 clear h
 replace H:=oB_ H
 obtain ⟨⟨t220,t221,t222⟩,A30,H⟩:=H
 replace H : (if t222 = true then (if t220 = 1 then (impl_valueAt.j0 k l0 t221 t222 t220 (t220 == 1) t220 0 (⟨#[]⟩ : ByteArray)) else (impl_valueAt.j0 k l0 t221 t222 t220 (t220 == 2) t220 0 (⟨#[]⟩ : ByteArray))) else (some (0,0,(⟨#[]⟩ : ByteArray),0,false))) = some (r1,r2,r3,r4,r5):=H
 have A3:=aM_ A30
 clear A30
 by_cases c4 : t222 = true
 ·subst c4
  have H1 : (if t220 = 1 then (impl_valueAt.j0 k l0 t221 true t220 (t220 == 1) t220 0 (⟨#[]⟩ : ByteArray)) else (impl_valueAt.j0 k l0 t221 true t220 (t220 == 2) t220 0 (⟨#[]⟩ : ByteArray))) = some (r1,r2,r3,r4,r5):=by rw [if_pos rfl] at H;exact H
  clear H
  have H:=H1
  clear H1
  have HC5:=aM_ H
  clear H
  go_enter Try.func115,Try.ntmps115
  go_upto_if 24 with (first | ((with_reducible refine gate_dst (N:=4) rfl ?_);refine box_event ?hg (N:=4) ?hd (cs:=#[.int .i64 0,.int .i64 0,.string (⟨#[]⟩ : ByteArray)]) (t:=116) ?hr ?_;(case hd=>rfl);(case hg=>rfl);(case hr=>first | (go_simp;done) | (go_simp;rfl));intro gb219 hg w6 hbox hb;have n0_:=aM_ (bT_ (by exact bZ_ HB) hb);have n1_:=aM_ (hbox);have n2_:=aM_ ((by rw [hg];exact (bS_ (by exact bZ_ HB)) : w.heap.size ≤ gb219));have n3_:=aM_ ((by rw [hg];exact (bS_ (by exact bZ_ HB)) : w.heap.size ≤ gb219));clear HB;have HB:=n0_;have BK219:=n1_;have GW219:=n2_;have GE219:=n3_;clear n0_ n1_ n2_ n3_;clear hb hbox hg) | ((with_reducible refine gate_callee (f:=78) rfl ?_);refine goesL_ (some 14) rfl rfl Try.func78 (by kernel_rfl) rfl #[.slice A0 l0.length c0,.int .i64 a1] rfl (by (try simp only [mA_,mC_,mN_]);first | done | rfl | (simp only [lD_,lT_];rfl)) ?_;(with_reducible refine (impl_GetU.calls k _ _ l0 a1 t220 t221 true _ ?side1 ?side2 A3.out).mono ?_);(case side1=>repeat (first | exact (Kd.C_below HR0.out HB.out) | (with_reducible refine cA_ ?_ _) | (with_reducible refine cN_ ?_ _) | (with_reducible refine cD_ ?_)));(case side2=>exact HC0.out);rintro e w' ⟨rfl,⟨nd,rfl⟩⟩;refine ⟨_,rfl,?_⟩;(try (rw [drewN_self w6];generalize hq_ : World.drewN w6 _ = w6;have n0_ : Aside0 (w6.heap[gb219]? = some (.cells #[.int .i64 0,.int .i64 0,.string (⟨#[]⟩ : ByteArray)] 116 (0,0))):=⟨by rw [← hq_];exact (by exact kZ_ BK219)⟩;have n1_ : Aside0 (Below w.heap.size w w6):=⟨by rw [← hq_];exact (by exact bZ_ HB)⟩;clear BK219 HB hq_;have BK219:=n0_;have HB:=n1_;clear n0_ n1_))) | ((with_reducible refine gate_dst (N:=10) rfl ?_);refine box_event ?hg (N:=10) ?hd (cs:=#[.int .i64 0,.int .i64 0,.string (⟨#[]⟩ : ByteArray)]) (t:=116) ?hr ?_;(case hd=>rfl);(case hg=>rfl);(case hr=>first | (go_simp;done) | (go_simp;rfl));intro gb223 hg w7 hbox hb;have n0_:=aM_ (blk_below (g:=gb219) (o:=.cells #[.int .i64 0,.int .i64 0,.string (⟨#[]⟩ : ByteArray)] 116 (0,0)) (by exact kZ_ BK219) hb);have n1_:=aM_ (bT_ (by exact bZ_ HB) hb);have n2_:=aM_ (hbox);have n3_:=aM_ ((by rw [hg];exact (bS_ (by exact bZ_ HB)) : w.heap.size ≤ gb223));have n4_:=aM_ ((by rw [hg];exact (bS_ (by exact bZ_ HB)) : w.heap.size ≤ gb223));have n5_:=aM_ ((by rw [hg];exact nN_ (blk_lt (g:=gb219) (o:=.cells #[.int .i64 0,.int .i64 0,.string (⟨#[]⟩ : ByteArray)] 116 (0,0)) (by exact kZ_ BK219)) : gb219 ≠ gb223));have n6_:=aM_ ((by rw [hg];exact Nat.ne_of_gt (blk_lt (g:=gb219) (o:=.cells #[.int .i64 0,.int .i64 0,.string (⟨#[]⟩ : ByteArray)] 116 (0,0)) (by exact kZ_ BK219)) : gb223 ≠ gb219));clear BK219;clear HB;have BK219:=n0_;have HB:=n1_;have BK223:=n2_;have GW223:=n3_;have GE223:=n4_;have NB219_223:=n5_;have NB223_219:=n6_;clear n0_ n1_ n2_ n3_ n4_ n5_ n6_;clear hb hbox hg;have hnb8:=NB223_219.out;have hnc8:=NB219_223.out;have hcz9_0 : w7.cell? ⟨gb223,0,none⟩ = some (.int .i64 0):=(kC_ BK223.out 0).trans rfl;have hcz9_1 : w7.cell? ⟨gb223,1,none⟩ = some (.int .i64 0):=(kC_ BK223.out 1).trans rfl;have hcz9_2 : w7.cell? ⟨gb223,2,none⟩ = some (.string (⟨#[]⟩ : ByteArray)):=(kC_ BK223.out 2).trans rfl;have hfz9_0:=kF_ BK223.out 0;have hfz9_1:=kF_ BK223.out 1;have hfz9_2:=kF_ BK223.out 2))
  (try simp only [Act.put,sI_,sZ_,sS_])
  go_cut [24] (fun v24 wc=>∃ (kq : Nat) (x24_4 : Bool),v24 = .bool x24_4 ∧ Aside0 (impl_valueAt.j0 kq l0 t221 true t220 x24_4 t220 0 (⟨#[]⟩ : ByteArray) = some (r1,r2,r3,r4,r5)) ∧ Aside0 (kq ≤ k) ∧ Aside0 (wc.heap[gb219]? = some (.cells #[.int .i64 0,.int .i64 0,.string (⟨#[]⟩ : ByteArray)] 116 (0,0))) ∧ Aside0 (wc.heap[gb223]? = some (.cells #[.int .i64 t220,.int .i64 0,.string (⟨#[]⟩ : ByteArray)] 116 (0,0))) ∧ Aside0 (Below w.heap.size w wc))
  case first =>
   have H:=HC5.out
   clear HC5
   by_cases c10 : t220 = 1
   ·rw [if_pos c10] at H
    have c10b0 : (t220 == 1) = true:=beq_iff_eq.mpr c10
    have c10b1 : (t220 != 1) = false:=bne_eq_false_iff_eq.mpr c10
    clear c10
    (first | rw [c10b0] | (simp only [i64_w,i32_w];rw [c10b0]) | skip)
    have H':=aM_ H
    clear H
    go_wp2
    (first | go_meet | (refine Met.intro ?_;go_step;(repeat apply Exists.intro);refine ⟨?rel,?eq⟩;(case eq=>(try simp only [c9b0]);(try simp only [c9b0]);(try simp only [c10b0]);rfl)))
    case rel=>exact ⟨_,((t220 == 1)),(by first | rfl | (simp;done) | (simp [*];done)),H', ⟨by first | omega | exact Nat.le_refl _⟩,⟨by exact kW_ BK219⟩,⟨by (with_reducible repeat (first | refine kN_ ?_ _ | refine kD_ ?_ | refine kA_ ?_ _));refine kP_ (cs:=#[.int .i64 t220,.int .i64 0,.string (⟨#[]⟩ : ByteArray)]) ?_ 2 _ rfl;(with_reducible repeat (first | refine kN_ ?_ _ | refine kD_ ?_ | refine kA_ ?_ _));refine kP_ (cs:=#[.int .i64 t220,.int .i64 0,.string (⟨#[]⟩ : ByteArray)]) ?_ 1 _ rfl;(with_reducible repeat (first | refine kN_ ?_ _ | refine kD_ ?_ | refine kA_ ?_ _));refine kP_ (cs:=#[.int .i64 0,.int .i64 0,.string (⟨#[]⟩ : ByteArray)]) ?_ 0 _ rfl;exact kZ_ BK223⟩,⟨by exact bZ_ HB⟩⟩
   ·rw [if_neg c10] at H
    have c10b0 : (t220 == 1) = false:=beq_eq_false_iff_ne.mpr c10
    have c10b1 : (t220 != 1) = true:=bne_iff_ne.mpr c10
    (first | rw [c10b0] | (simp only [i64_w,i32_w];rw [c10b0]) | skip)
    have H':=aM_ H
    clear H
    go_wp2
    (first | go_meet | (refine Met.intro ?_;go_step;(repeat apply Exists.intro);refine ⟨?rel,?eq⟩;(case eq=>(try simp only [c9b0]);(try simp only [c10b0]);(try simp only [c10b0]);rfl)))
    case rel=>exact ⟨_,((t220 == 2)),(by first | rfl | (simp;done) | (simp [*];done)),H', ⟨by first | omega | exact Nat.le_refl _⟩,⟨by exact kW_ BK219⟩,⟨by (with_reducible repeat (first | refine kN_ ?_ _ | refine kD_ ?_ | refine kA_ ?_ _));refine kP_ (cs:=#[.int .i64 t220,.int .i64 0,.string (⟨#[]⟩ : ByteArray)]) ?_ 2 _ rfl;(with_reducible repeat (first | refine kN_ ?_ _ | refine kD_ ?_ | refine kA_ ?_ _));refine kP_ (cs:=#[.int .i64 t220,.int .i64 0,.string (⟨#[]⟩ : ByteArray)]) ?_ 1 _ rfl;(with_reducible repeat (first | refine kN_ ?_ _ | refine kD_ ?_ | refine kA_ ?_ _));refine kP_ (cs:=#[.int .i64 0,.int .i64 0,.string (⟨#[]⟩ : ByteArray)]) ?_ 0 _ rfl;exact kZ_ BK223⟩,⟨by exact bZ_ HB⟩⟩
  case rest =>
   clear HC5
   try clear c1
   try clear p2
   try clear c4
   try clear c7
   try clear c8
   try clear c9
   try clear c9b0
   try clear c10
   try clear c10b0
   try clear c10b1
   try clear hcz9_0
   try clear hcz9_1
   try clear hcz9_2
   try clear hfz9_0
   try clear hfz9_1
   try clear hfz9_2
   obtain ⟨kq,x24_4,rfl,HA,HJ4,BK219,BK223,HB⟩:=hcut
   cases kq with
   | zero=>exact absurd HA.out (by simp [impl_valueAt.j0])
   | succ kj4 =>
    have H:=HA.out
    clear HA
    simp only [impl_valueAt.j0] at H
    by_cases c11 : x24_4 = true
    ·subst c11
     have H1 : ((impl_GetVar.f kj4 l0 t221).bind fun bt224=>(some (t220,bt224.1,(⟨#[]⟩ : ByteArray),bt224.2.1,bt224.2.2))) = some (r1,r2,r3,r4,r5):=by rw [if_pos rfl] at H;exact H
     clear H
     have H:=H1
     clear H1
     replace H:=oB_ H
     obtain ⟨⟨t224,t225,t226⟩,A120,H⟩:=H
     replace H : (some (t220,t224,(⟨#[]⟩ : ByteArray),t225,t226)) = some (r1,r2,r3,r4,r5):=H
     have A12:=aM_ A120
     clear A120
     simp only [Option.some.injEq,Prod.mk.injEq] at H
     obtain ⟨rfl,rfl,rfl,rfl,rfl⟩:=H
     go_wp2_with (first | ((with_reducible refine gate_callee (f:=165) rfl ?_);refine goesL_ (some 30) rfl rfl Try.func165 (by kernel_rfl) rfl #[.slice A0 l0.length c0,.int .i64 t221] rfl (by (try simp only [mA_,mC_,mN_]);first | done | rfl | (simp only [lD_,lT_];rfl)) ?_;(with_reducible refine (impl_GetVar.calls kj4 _ _ l0 t221 t224 t225 t226 _ ?side1 ?side2 A12.out).mono ?_);(case side1=>repeat (first | exact (Kd.C_below HR0.out HB.out) | (with_reducible refine cA_ ?_ _) | (with_reducible refine cN_ ?_ _) | (with_reducible refine cD_ ?_)));(case side2=>exact HC0.out);rintro e w' ⟨rfl,⟨nd,rfl⟩⟩;refine ⟨_,rfl,?_⟩;(try (rw [drewN_self wc];generalize hq_ : World.drewN wc _ = wc;have n0_ : Aside0 (wc.heap[gb219]? = some (.cells #[.int .i64 0,.int .i64 0,.string (⟨#[]⟩ : ByteArray)] 116 (0,0))):=⟨by rw [← hq_];exact (by exact kZ_ BK219)⟩;have n1_ : Aside0 (wc.heap[gb223]? = some (.cells #[.int .i64 t220,.int .i64 0,.string (⟨#[]⟩ : ByteArray)] 116 (0,0))):=⟨by rw [← hq_];exact (by exact kZ_ BK223)⟩;have n2_ : Aside0 (Below w.heap.size w wc):=⟨by rw [← hq_];exact (by exact bZ_ HB)⟩;clear BK219 BK223 HB hq_;have BK219:=n0_;have BK223:=n1_;have HB:=n2_;clear n0_ n1_ n2_));have hnb13:=NB223_219.out;have hnc13:=NB219_223.out;have hcz14_0 : wc.cell? ⟨gb223,0,none⟩ = some (.int .i64 t220):=(kC_ BK223.out 0).trans rfl;have hcz14_1 : wc.cell? ⟨gb223,1,none⟩ = some (.int .i64 0):=(kC_ BK223.out 1).trans rfl;have hcz14_2 : wc.cell? ⟨gb223,2,none⟩ = some (.string (⟨#[]⟩ : ByteArray)):=(kC_ BK223.out 2).trans rfl;have hfz14_0:=kF_ BK223.out 0;have hfz14_1:=kF_ BK223.out 1;have hfz14_2:=kF_ BK223.out 2;have hcz15_0 : wc.cell? ⟨gb219,0,none⟩ = some (.int .i64 0):=(kC_ BK219.out 0).trans rfl;have hcz15_1 : wc.cell? ⟨gb219,1,none⟩ = some (.int .i64 0):=(kC_ BK219.out 1).trans rfl;have hcz15_2 : wc.cell? ⟨gb219,2,none⟩ = some (.string (⟨#[]⟩ : ByteArray)):=(kC_ BK219.out 2).trans rfl;have hfz15_0:=kF_ BK219.out 0;have hfz15_1:=kF_ BK219.out 1;have hfz15_2:=kF_ BK219.out 2))
     refine bodyPost_ret (results_ctt rfl _ _ gb219 116 #[.int .i64 t220,.int .i64 t224,.string (⟨#[]⟩ : ByteArray)] (0,0) _ rfl (by (with_reducible repeat (first | refine kN_ ?_ _ | refine kD_ ?_ | refine kA_ ?_ _));refine kP_ (cs:=#[.int .i64 t220,.int .i64 t224,.string (⟨#[]⟩ : ByteArray)]) ?_ 2 _ rfl;(with_reducible repeat (first | refine kN_ ?_ _ | refine kD_ ?_ | refine kA_ ?_ _));refine kP_ (cs:=#[.int .i64 t220,.int .i64 0,.string (⟨#[]⟩ : ByteArray)]) ?_ 1 _ rfl;(with_reducible repeat (first | refine kN_ ?_ _ | refine kD_ ?_ | refine kA_ ?_ _));refine kP_ (cs:=#[.int .i64 0,.int .i64 0,.string (⟨#[]⟩ : ByteArray)]) ?_ 0 _ rfl;exact kW_ BK219) Try.underlying116 rfl (by kernel_rfl)) rfl ?_
     exact ⟨by first | rfl | (simp [errW_none,errW_some] <;> rfl) | (simp [*, errW_none,errW_some] <;> rfl),by exact bZ_ HB⟩
    ·replace c11:=Bool.eq_false_iff.mpr c11
     subst c11
     have H1 : (if t220 = 3 then ((impl_GetText.f kj4 l0 t221).bind fun bt227=>(some (t220,0,bt227.1,bt227.2.1,bt227.2.2))) else (if t220 = 4 then (if t221 ≥ (l0.length : Int) then (some (0,0,(⟨#[]⟩ : ByteArray),0,false)) else (if 0 ≤ t221 then (if t221 < (l0.length : Int) then (some (t220,wrap64 (rd l0 t221),(⟨#[]⟩ : ByteArray),wrap64 (t221 + 1),true)) else (none)) else (none))) else (some (t220,0,(⟨#[]⟩ : ByteArray),t221,true)))) = some (r1,r2,r3,r4,r5):=by rw [if_neg (show ¬ (false = true) by decide)] at H;exact H
     clear H
     have H:=H1
     clear H1
     by_cases c16 : t220 = 3
     ·rw [if_pos c16] at H
      have c16b0 : (t220 == 3) = true:=beq_iff_eq.mpr c16
      have c16b1 : (t220 != 3) = false:=bne_eq_false_iff_eq.mpr c16
      clear c16
      replace H:=oB_ H
      obtain ⟨⟨t227,t228,t229⟩,A170,H⟩:=H
      replace H : (some (t220,0,t227,t228,t229)) = some (r1,r2,r3,r4,r5):=H
      have A17:=aM_ A170
      clear A170
      simp only [Option.some.injEq,Prod.mk.injEq] at H
      obtain ⟨rfl,rfl,rfl,rfl,rfl⟩:=H
      go_wp2_with (first | ((with_reducible refine gate_callee (f:=80) rfl ?_);refine goesL_ (some 40) rfl rfl Try.func80 (by kernel_rfl) rfl #[.slice A0 l0.length c0,.int .i64 t221] rfl (by (try simp only [mA_,mC_,mN_]);first | done | rfl | (simp only [lD_,lT_];rfl)) ?_;(with_reducible refine (impl_GetText.calls kj4 _ _ l0 t221 t227 t228 t229 _ ?side1 ?side2 A17.out).mono ?_);(case side1=>repeat (first | exact (Kd.C_below HR0.out HB.out) | (with_reducible refine cA_ ?_ _) | (with_reducible refine cN_ ?_ _) | (with_reducible refine cD_ ?_)));(case side2=>exact HC0.out);rintro e w' ⟨rfl,⟨nd,rfl⟩⟩;refine ⟨_,rfl,?_⟩;(try (rw [drewN_self wc];generalize hq_ : World.drewN wc _ = wc;have n0_ : Aside0 (wc.heap[gb219]? = some (.cells #[.int .i64 0,.int .i64 0,.string (⟨#[]⟩ : ByteArray)] 116 (0,0))):=⟨by rw [← hq_];exact (by exact kZ_ BK219)⟩;have n1_ : Aside0 (wc.heap[gb223]? = some (.cells #[.int .i64 t220,.int .i64 0,.string (⟨#[]⟩ : ByteArray)] 116 (0,0))):=⟨by rw [← hq_];exact (by exact kZ_ BK223)⟩;have n2_ : Aside0 (Below w.heap.size w wc):=⟨by rw [← hq_];exact (by exact bZ_ HB)⟩;clear BK219 BK223 HB hq_;have BK219:=n0_;have BK223:=n1_;have HB:=n2_;clear n0_ n1_ n2_));have hnb18:=NB223_219.out;have hnc18:=NB219_223.out;have hcz19_0 : wc.cell? ⟨gb223,0,none⟩ = some (.int .i64 t220):=(kC_ BK223.out 0).trans rfl;have hcz19_1 : wc.cell? ⟨gb223,1,none⟩ = some (.int .i64 0):=(kC_ BK223.out 1).trans rfl;have hcz19_2 : wc.cell? ⟨gb223,2,none⟩ = some (.string (⟨#[]⟩ : ByteArray)):=(kC_ BK223.out 2).trans rfl;have hfz19_0:=kF_ BK223.out 0;have hfz19_1:=kF_ BK223.out 1;have hfz19_2:=kF_ BK223.out 2;have hcz20_0 : wc.cell? ⟨gb219,0,none⟩ = some (.int .i64 0):=(kC_ BK219.out 0).trans rfl;have hcz20_1 : wc.cell? ⟨gb219,1,none⟩ = some (.int .i64 0):=(kC_ BK219.out 1).trans rfl;have hcz20_2 : wc.cell? ⟨gb219,2,none⟩ = some (.string (⟨#[]⟩ : ByteArray)):=(kC_ BK219.out 2).trans rfl;have hfz20_0:=kF_ BK219.out 0;have hfz20_1:=kF_ BK219.out 1;have hfz20_2:=kF_ BK219.out 2))
      refine bodyPost_ret (results_ctt rfl _ _ gb219 116 #[.int .i64 t220,.int .i64 0,.string t227] (0,0) _ rfl (by (with_reducible repeat (first | refine kN_ ?_ _ | refine kD_ ?_ | refine kA_ ?_ _));refine kP_ (cs:=#[.int .i64 t220,.int .i64 0,.string (⟨#[]⟩ : ByteArray)]) ?_ 2 _ rfl;(with_reducible repeat (first | refine kN_ ?_ _ | refine kD_ ?_ | refine kA_ ?_ _));refine kP_ (cs:=#[.int .i64 t220,.int .i64 0,.string (⟨#[]⟩ : ByteArray)]) ?_ 1 _ rfl;(with_reducible repeat (first | refine kN_ ?_ _ | refine kD_ ?_ | refine kA_ ?_ _));refine kP_ (cs:=#[.int .i64 0,.int .i64 0,.string (⟨#[]⟩ : ByteArray)]) ?_ 0 _ rfl;exact kW_ BK219) Try.underlying116 rfl (by kernel_rfl)) rfl ?_
      exact ⟨by first | rfl | (simp [errW_none,errW_some] <;> rfl) | (simp [*, errW_none,errW_some] <;> rfl),by exact bZ_ HB⟩
     ·rw [if_neg c16] at H
      have c16b0 : (t220 == 3) = false:=beq_eq_false_iff_ne.mpr c16
      have c16b1 : (t220 != 3) = true:=bne_iff_ne.mpr c16
      by_cases c21 : t220 = 4
      ·rw [if_pos c21] at H
       have c21b0 : (t220 == 4) = true:=beq_iff_eq.mpr c21
       have c21b1 : (t220 != 4) = false:=bne_eq_false_iff_eq.mpr c21
       clear c21
       by_cases c22 : t221 ≥ (l0.length : Int)
       ·rw [if_pos c22] at H
        have c22b0 : decide ((l0.length : Int) ≤ t221) = true:=decide_eq_true c22
        clear c22
        simp only [Option.some.injEq,Prod.mk.injEq] at H
        obtain ⟨rfl,rfl,rfl,rfl,rfl⟩:=H
        have hnb23:=NB219_223.out
        have hnc23:=NB223_219.out
        have hcz24_0 : wc.cell? ⟨gb219,0,none⟩ = some (.int .i64 0):=(kC_ BK219.out 0).trans rfl
        have hcz24_1 : wc.cell? ⟨gb219,1,none⟩ = some (.int .i64 0):=(kC_ BK219.out 1).trans rfl
        have hcz24_2 : wc.cell? ⟨gb219,2,none⟩ = some (.string (⟨#[]⟩ : ByteArray)):=(kC_ BK219.out 2).trans rfl
        have hfz24_0:=kF_ BK219.out 0
        have hfz24_1:=kF_ BK219.out 1
        have hfz24_2:=kF_ BK219.out 2
        go_wp2
        refine bodyPost_ret (results_ctt rfl _ _ gb219 116 #[.int .i64 0,.int .i64 0,.string (⟨#[]⟩ : ByteArray)] (0,0) _ rfl (by (with_reducible repeat (first | refine kN_ ?_ _ | refine kD_ ?_ | refine kA_ ?_ _));refine kP_ (cs:=#[.int .i64 0,.int .i64 0,.string (⟨#[]⟩ : ByteArray)]) ?_ 2 _ rfl;(with_reducible repeat (first | refine kN_ ?_ _ | refine kD_ ?_ | refine kA_ ?_ _));refine kP_ (cs:=#[.int .i64 0,.int .i64 0,.string (⟨#[]⟩ : ByteArray)]) ?_ 1 _ rfl;(with_reducible repeat (first | refine kN_ ?_ _ | refine kD_ ?_ | refine kA_ ?_ _));refine kP_ (cs:=#[.int .i64 0,.int .i64 0,.string (⟨#[]⟩ : ByteArray)]) ?_ 0 _ rfl;exact kZ_ BK219) Try.underlying116 rfl (by kernel_rfl)) rfl ?_
        exact ⟨by first | rfl | (simp [errW_none,errW_some] <;> rfl) | (simp [*, errW_none,errW_some] <;> rfl),by exact bZ_ HB⟩
       ·rw [if_neg c22] at H
        have c22b0 : decide ((l0.length : Int) ≤ t221) = false:=decide_eq_false c22
        clear c22
        by_cases c25 : 0 ≤ t221
        ·rw [if_pos c25] at H
         have c25b0 : decide (0 ≤ t221) = true:=decide_eq_true c25
         clear c25
         by_cases c26 : t221 < (l0.length : Int)
         ·rw [if_pos c26] at H
          have c26b0 : decide (t221 < (l0.length : Int)) = true:=decide_eq_true c26
          clear c26
          simp only [Option.some.injEq,Prod.mk.injEq] at H
          obtain ⟨rfl,rfl,rfl,rfl,rfl⟩:=H
          have p230 : 0 ≤ (t221 : Int):=oT_ (by first | (with_reducible assumption) | assumption)
          have q230 : t221 < (l0.length : Int):=oT_ (by first | (with_reducible assumption) | assumption)
          obtain ⟨ad230,e230,hx230_0⟩:=Kd.at_int HR0.out t221 p230 q230
          cases e230
          replace hx230_0:=(HB.out.cell (wL_ w _ hx230_0)).trans hx230_0
          replace p230:=eq_true p230
          replace q230:=eq_true q230
          have hnb27:=NB223_219.out
          have hnc27:=NB219_223.out
          have hcz28_0 : wc.cell? ⟨gb223,0,none⟩ = some (.int .i64 t220):=(kC_ BK223.out 0).trans rfl
          have hcz28_1 : wc.cell? ⟨gb223,1,none⟩ = some (.int .i64 0):=(kC_ BK223.out 1).trans rfl
          have hcz28_2 : wc.cell? ⟨gb223,2,none⟩ = some (.string (⟨#[]⟩ : ByteArray)):=(kC_ BK223.out 2).trans rfl
          have hfz28_0:=kF_ BK223.out 0
          have hfz28_1:=kF_ BK223.out 1
          have hfz28_2:=kF_ BK223.out 2
          have hcz29_0 : wc.cell? ⟨gb219,0,none⟩ = some (.int .i64 0):=(kC_ BK219.out 0).trans rfl
          have hcz29_1 : wc.cell? ⟨gb219,1,none⟩ = some (.int .i64 0):=(kC_ BK219.out 1).trans rfl
          have hcz29_2 : wc.cell? ⟨gb219,2,none⟩ = some (.string (⟨#[]⟩ : ByteArray)):=(kC_ BK219.out 2).trans rfl
          have hfz29_0:=kF_ BK219.out 0
          have hfz29_1:=kF_ BK219.out 1
          have hfz29_2:=kF_ BK219.out 2
          go_wp2
          refine bodyPost_ret (results_ctt rfl _ _ gb219 116 #[.int .i64 t220,.int .i64 (wrap64 (rd l0 t221)),.string (⟨#[]⟩ : ByteArray)] (0,0) _ rfl (by (with_reducible repeat (first | refine kN_ ?_ _ | refine kD_ ?_ | refine kA_ ?_ _));refine kP_ (cs:=#[.int .i64 t220,.int .i64 (wrap64 (rd l0 t221)),.string (⟨#[]⟩ : ByteArray)]) ?_ 2 _ rfl;(with_reducible repeat (first | refine kN_ ?_ _ | refine kD_ ?_ | refine kA_ ?_ _));refine kP_ (cs:=#[.int .i64 t220,.int .i64 0,.string (⟨#[]⟩ : ByteArray)]) ?_ 1 _ rfl;(with_reducible repeat (first | refine kN_ ?_ _ | refine kD_ ?_ | refine kA_ ?_ _));refine kP_ (cs:=#[.int .i64 0,.int .i64 0,.string (⟨#[]⟩ : ByteArray)]) ?_ 0 _ rfl;exact kW_ BK219) Try.underlying116 rfl (by kernel_rfl)) rfl ?_
          exact ⟨by first | rfl | (simp [errW_none,errW_some] <;> rfl) | (simp [*, errW_none,errW_some] <;> rfl),by exact bZ_ HB⟩
         ·rw [if_neg c26] at H
          exact absurd H (by simp)
        ·rw [if_neg c25] at H
         exact absurd H (by simp)
      ·rw [if_neg c21] at H
       have c21b0 : (t220 == 4) = false:=beq_eq_false_iff_ne.mpr c21
       have c21b1 : (t220 != 4) = true:=bne_iff_ne.mpr c21
       simp only [Option.some.injEq,Prod.mk.injEq] at H
       obtain ⟨rfl,rfl,rfl,rfl,rfl⟩:=H
       have hnb30:=NB223_219.out
       have hnc30:=NB219_223.out
       have hcz31_0 : wc.cell? ⟨gb223,0,none⟩ = some (.int .i64 t220):=(kC_ BK223.out 0).trans rfl
       have hcz31_1 : wc.cell? ⟨gb223,1,none⟩ = some (.int .i64 0):=(kC_ BK223.out 1).trans rfl
       have hcz31_2 : wc.cell? ⟨gb223,2,none⟩ = some (.string (⟨#[]⟩ : ByteArray)):=(kC_ BK223.out 2).trans rfl
       have hfz31_0:=kF_ BK223.out 0
       have hfz31_1:=kF_ BK223.out 1
       have hfz31_2:=kF_ BK223.out 2
       have hcz32_0 : wc.cell? ⟨gb219,0,none⟩ = some (.int .i64 0):=(kC_ BK219.out 0).trans rfl
       have hcz32_1 : wc.cell? ⟨gb219,1,none⟩ = some (.int .i64 0):=(kC_ BK219.out 1).trans rfl
       have hcz32_2 : wc.cell? ⟨gb219,2,none⟩ = some (.string (⟨#[]⟩ : ByteArray)):=(kC_ BK219.out 2).trans rfl
       have hfz32_0:=kF_ BK219.out 0
       have hfz32_1:=kF_ BK219.out 1
       have hfz32_2:=kF_ BK219.out 2
       go_wp2
       refine bodyPost_ret (results_ctt rfl _ _ gb219 116 #[.int .i64 t220,.int .i64 0,.string (⟨#[]⟩ : ByteArray)] (0,0) _ rfl (by (with_reducible repeat (first | refine kN_ ?_ _ | refine kD_ ?_ | refine kA_ ?_ _));refine kP_ (cs:=#[.int .i64 t220,.int .i64 0,.string (⟨#[]⟩ : ByteArray)]) ?_ 2 _ rfl;(with_reducible repeat (first | refine kN_ ?_ _ | refine kD_ ?_ | refine kA_ ?_ _));refine kP_ (cs:=#[.int .i64 t220,.int .i64 0,.string (⟨#[]⟩ : ByteArray)]) ?_ 1 _ rfl;(with_reducible repeat (first | refine kN_ ?_ _ | refine kD_ ?_ | refine kA_ ?_ _));refine kP_ (cs:=#[.int .i64 0,.int .i64 0,.string (⟨#[]⟩ : ByteArray)]) ?_ 0 _ rfl;exact kZ_ BK219) Try.underlying116 rfl (by kernel_rfl)) rfl ?_
       exact ⟨by first | rfl | (simp [errW_none,errW_some] <;> rfl) | (simp [*, errW_none,errW_some] <;> rfl),by exact bZ_ HB⟩
 ·replace c4:=Bool.eq_false_iff.mpr c4
  subst c4
  have H1 : (some (0,0,(⟨#[]⟩ : ByteArray),0,false)) = some (r1,r2,r3,r4,r5):=by rw [if_neg (show ¬ (false = true) by decide)] at H;exact H
  clear H
  have H:=H1
  clear H1
  simp only [Option.some.injEq,Prod.mk.injEq] at H
  obtain ⟨rfl,rfl,rfl,rfl,rfl⟩:=H
  go_enter Try.func115,Try.ntmps115
  go_wp2_with (first | ((with_reducible refine gate_dst (N:=4) rfl ?_);refine box_event ?hg (N:=4) ?hd (cs:=#[.int .i64 0,.int .i64 0,.string (⟨#[]⟩ : ByteArray)]) (t:=116) ?hr ?_;(case hd=>rfl);(case hg=>rfl);(case hr=>first | (go_simp;done) | (go_simp;rfl));intro gb219 hg w33 hbox hb;have n0_:=aM_ (bT_ (by exact bZ_ HB) hb);have n1_:=aM_ (hbox);have n2_:=aM_ ((by rw [hg];exact (bS_ (by exact bZ_ HB)) : w.heap.size ≤ gb219));have n3_:=aM_ ((by rw [hg];exact (bS_ (by exact bZ_ HB)) : w.heap.size ≤ gb219));clear HB;have HB:=n0_;have BK219:=n1_;have GW219:=n2_;have GE219:=n3_;clear n0_ n1_ n2_ n3_;clear hb hbox hg) | ((with_reducible refine gate_callee (f:=78) rfl ?_);refine goesL_ (some 14) rfl rfl Try.func78 (by kernel_rfl) rfl #[.slice A0 l0.length c0,.int .i64 a1] rfl (by (try simp only [mA_,mC_,mN_]);first | done | rfl | (simp only [lD_,lT_];rfl)) ?_;(with_reducible refine (impl_GetU.calls k _ _ l0 a1 t220 t221 false _ ?side1 ?side2 A3.out).mono ?_);(case side1=>repeat (first | exact (Kd.C_below HR0.out HB.out) | (with_reducible refine cA_ ?_ _) | (with_reducible refine cN_ ?_ _) | (with_reducible refine cD_ ?_)));(case side2=>exact HC0.out);rintro e w' ⟨rfl,⟨nd,rfl⟩⟩;refine ⟨_,rfl,?_⟩;(try (rw [drewN_self w33];generalize hq_ : World.drewN w33 _ = w33;have n0_ : Aside0 (w33.heap[gb219]? = some (.cells #[.int .i64 0,.int .i64 0,.string (⟨#[]⟩ : ByteArray)] 116 (0,0))):=⟨by rw [← hq_];exact (by exact kZ_ BK219)⟩;have n1_ : Aside0 (Below w.heap.size w w33):=⟨by rw [← hq_];exact (by exact bZ_ HB)⟩;clear BK219 HB hq_;have BK219:=n0_;have HB:=n1_;clear n0_ n1_))) | ((with_reducible refine gate_dst (N:=10) rfl ?_);refine box_event ?hg (N:=10) ?hd (cs:=#[.int .i64 0,.int .i64 0,.string (⟨#[]⟩ : ByteArray)]) (t:=116) ?hr ?_;(case hd=>rfl);(case hg=>rfl);(case hr=>first | (go_simp;done) | (go_simp;rfl));intro gb223 hg w34 hbox hb;have n0_:=aM_ (blk_below (g:=gb219) (o:=.cells #[.int .i64 0,.int .i64 0,.string (⟨#[]⟩ : ByteArray)] 116 (0,0)) (by exact kZ_ BK219) hb);have n1_:=aM_ (bT_ (by exact bZ_ HB) hb);have n2_:=aM_ (hbox);have n3_:=aM_ ((by rw [hg];exact (bS_ (by exact bZ_ HB)) : w.heap.size ≤ gb223));have n4_:=aM_ ((by rw [hg];exact (bS_ (by exact bZ_ HB)) : w.heap.size ≤ gb223));have n5_:=aM_ ((by rw [hg];exact nN_ (blk_lt (g:=gb219) (o:=.cells #[.int .i64 0,.int .i64 0,.string (⟨#[]⟩ : ByteArray)] 116 (0,0)) (by exact kZ_ BK219)) : gb219 ≠ gb223));have n6_:=aM_ ((by rw [hg];exact Nat.ne_of_gt (blk_lt (g:=gb219) (o:=.cells #[.int .i64 0,.int .i64 0,.string (⟨#[]⟩ : ByteArray)] 116 (0,0)) (by exact kZ_ BK219)) : gb223 ≠ gb219));clear BK219;clear HB;have BK219:=n0_;have HB:=n1_;have BK223:=n2_;have GW223:=n3_;have GE223:=n4_;have NB219_223:=n5_;have NB223_219:=n6_;clear n0_ n1_ n2_ n3_ n4_ n5_ n6_;clear hb hbox hg;have hnb35:=NB223_219.out;have hnc35:=NB219_223.out;have hcz36_0 : w34.cell? ⟨gb223,0,none⟩ = some (.int .i64 0):=(kC_ BK223.out 0).trans rfl;have hcz36_1 : w34.cell? ⟨gb223,1,none⟩ = some (.int .i64 0):=(kC_ BK223.out 1).trans rfl;have hcz36_2 : w34.cell? ⟨gb223,2,none⟩ = some (.string (⟨#[]⟩ : ByteArray)):=(kC_ BK223.out 2).trans rfl;have hfz36_0:=kF_ BK223.out 0;have hfz36_1:=kF_ BK223.out 1;have hfz36_2:=kF_ BK223.out 2;have hcz37_0 : w34.cell? ⟨gb219,0,none⟩ = some (.int .i64 0):=(kC_ BK219.out 0).trans rfl;have hcz37_1 : w34.cell? ⟨gb219,1,none⟩ = some (.int .i64 0):=(kC_ BK219.out 1).trans rfl;have hcz37_2 : w34.cell? ⟨gb219,2,none⟩ = some (.string (⟨#[]⟩ : ByteArray)):=(kC_ BK219.out 2).trans rfl;have hfz37_0:=kF_ BK219.out 0;have hfz37_1:=kF_ BK219.out 1;have hfz37_2:=kF_ BK219.out 2))
  refine bodyPost_ret (results_ctt rfl _ _ gb219 116 #[.int .i64 0,.int .i64 0,.string (⟨#[]⟩ : ByteArray)] (0,0) _ rfl (by (with_reducible repeat (first | refine kN_ ?_ _ | refine kD_ ?_ | refine kA_ ?_ _));refine kP_ (cs:=#[.int .i64 0,.int .i64 0,.string (⟨#[]⟩ : ByteArray)]) ?_ 2 _ rfl;(with_reducible repeat (first | refine kN_ ?_ _ | refine kD_ ?_ | refine kA_ ?_ _));refine kP_ (cs:=#[.int .i64 0,.int .i64 0,.string (⟨#[]⟩ : ByteArray)]) ?_ 1 _ rfl;(with_reducible repeat (first | refine kN_ ?_ _ | refine kD_ ?_ | refine kA_ ?_ _));refine kP_ (cs:=#[.int .i64 0,.int .i64 0,.string (⟨#[]⟩ : ByteArray)]) ?_ 0 _ rfl;exact kW_ BK219) Try.underlying116 rfl (by kernel_rfl)) rfl ?_
  exact ⟨by first | rfl | (simp [errW_none,errW_some] <;> rfl) | (simp [*, errW_none,errW_some] <;> rfl),by exact bZ_ HB⟩
end Go.Proofs.Ytllgmgpfdnofmaa.PFnRowsRead
