import Derived.Test.YtllgmgpfdnofmaaZNDPFnNodesx0
namespace Go.Proofs.Ytllgmgpfdnofmaa.PFnNodes
open Go.RowKit Go.Proofs.YtllgmgpfdnofmaaW.PrintWords Go.Proofs.YtllgmgpfdnofmaaW.PrintLast Go.Proofs.YtllgmgpfdnofmaaW.PrintMore Go.Proofs.Ytllgmgpfdnofmaa.Xtra
attribute [local go_sem] max2_int min2_int max_two min_two max_three min_three max_four min_four str_leq str_gtr str_geq setCell_drewN cell_set2 cell_set3   -- for this text's walks alone
set_option linter.unusedVariables false
set_option linter.unusedSimpArgs false
mutual
def impl_GetU.l0 : Nat → List Int → Int → Int → Int → Option (Int × Int × Bool)
 | 0,_,_,_,_=>none
 | k + 1,x0,x1,x7,x8=>if x8 < 3 then (if x1 ≥ 0 then (impl_GetU.j1 k x0 x1 x7 x8 (decide (x1 < (wrap64 ((x0.length : Int) - x8))))) else (impl_GetU.j1 k x0 x1 x7 x8 false)) else (impl_GetU.j1 k x0 x1 x7 x8 false)
def impl_GetU.j1 : Nat → List Int → Int → Int → Int → Bool → Option (Int × Int × Bool)
 | 0,_,_,_,_,_=>none
 | k + 1,x0,x1,x7,x8,x23=>if x23 = true then (if 0 ≤ (wrap64 (x1 + x8)) then (if (wrap64 (x1 + x8)) < (x0.length : Int) then (if 0 ≤ (wrap64 (7 * x8)) then (if (wrap64 (rd x0 (wrap64 (x1 + x8)))) ≥ 128 then (impl_GetU.l0 k x0 x1 (wrap64 (x7 + (shl .i64 (Int.tmod (wrap64 (rd x0 (wrap64 (x1 + x8)))) 128) (wrap64 (7 * x8))))) (wrap64 (x8 + 1))) else (if (wrap64 (rd x0 (wrap64 (x1 + x8)))) = 0 then (if x8 > 0 then (some (0,0,false)) else (if (wrap64 (x7 + (shl .i64 (Int.tmod (wrap64 (rd x0 (wrap64 (x1 + x8)))) 128) (wrap64 (7 * x8))))) > 1000000 then (some (0,0,false)) else (some (wrap64 (x7 + (shl .i64 (Int.tmod (wrap64 (rd x0 (wrap64 (x1 + x8)))) 128) (wrap64 (7 * x8)))),wrap64 ((wrap64 (x1 + x8)) + 1),true)))) else (if (wrap64 (x7 + (shl .i64 (Int.tmod (wrap64 (rd x0 (wrap64 (x1 + x8)))) 128) (wrap64 (7 * x8))))) > 1000000 then (some (0,0,false)) else (some (wrap64 (x7 + (shl .i64 (Int.tmod (wrap64 (rd x0 (wrap64 (x1 + x8)))) 128) (wrap64 (7 * x8)))),wrap64 ((wrap64 (x1 + x8)) + 1),true))))) else (none)) else (none)) else (none)) else (some (0,0,false))
end
def impl_GetU.f (k : Nat) (l0 : List Int) (a1 : Int) : Option (Int × Int × Bool):=impl_GetU.l0 k l0 a1 0 0
theorem impl_GetU.mono_l : ∀ k,(∀ y0 y1 y2 y3,LeO (impl_GetU.l0 k y0 y1 y2 y3) (impl_GetU.l0 (k + 1) y0 y1 y2 y3)) ∧ (∀ y0 y1 y2 y3 y4,LeO (impl_GetU.j1 k y0 y1 y2 y3 y4) (impl_GetU.j1 (k + 1) y0 y1 y2 y3 y4))
 | 0=>⟨fun _ _ _ _ r h=>by simp [impl_GetU.l0] at h,fun _ _ _ _ _ r h=>by simp [impl_GetU.j1] at h⟩
 | k + 1=>by
  obtain ⟨ih0,ih1⟩:=impl_GetU.mono_l k
  refine ⟨?_,?_⟩
  ·intro y0 y1 y2 y3
   unfold impl_GetU.l0
   repeat' first
   | (with_reducible exact ih0 _ _ _ _)
   | (with_reducible exact ih1 _ _ _ _ _)
   | (with_reducible exact LeO.refl _)
   | (with_reducible exact LeO.none _)
   | (with_reducible refine LeO.ite ?_ ?_)
   | (with_reducible refine LeO.bind ?_ (fun _=>?_))
   | exact ih0 _ _ _ _
   | exact ih1 _ _ _ _ _
   | exact LeO.none _
   | refine LeO.ite ?_ ?_
   | refine LeO.bind ?_ (fun _=>?_)
  ·intro y0 y1 y2 y3 y4
   unfold impl_GetU.j1
   repeat' first
   | (with_reducible exact ih0 _ _ _ _)
   | (with_reducible exact ih1 _ _ _ _ _)
   | (with_reducible exact LeO.refl _)
   | (with_reducible exact LeO.none _)
   | (with_reducible refine LeO.ite ?_ ?_)
   | (with_reducible refine LeO.bind ?_ (fun _=>?_))
   | exact ih0 _ _ _ _
   | exact ih1 _ _ _ _ _
   | exact LeO.none _
   | refine LeO.ite ?_ ?_
   | refine LeO.bind ?_ (fun _=>?_)
theorem impl_GetU.mono : ∀ a0 a1 k,LeO (impl_GetU.f k a0 a1) (impl_GetU.f (k + 1) a0 a1):=by
 intro a0 a1 k
 obtain ⟨ih0,ih1⟩:=impl_GetU.mono_l k
 unfold impl_GetU.f
 repeat' first
   | (with_reducible exact ih0 _ _ _ _)
   | (with_reducible exact ih1 _ _ _ _ _)
   | (with_reducible exact LeO.refl _)
   | (with_reducible exact LeO.none _)
   | (with_reducible refine LeO.ite ?_ ?_)
   | (with_reducible refine LeO.bind ?_ (fun _=>?_))
   | exact ih0 _ _ _ _
   | exact ih1 _ _ _ _ _
   | exact LeO.none _
   | refine LeO.ite ?_ ?_
   | refine LeO.bind ?_ (fun _=>?_)
set_option maxHeartbeats 8000000 in
set_option maxRecDepth 100000 in
theorem impl_GetU.calls (k : Nat) (A0 : Option Addr) (c0 : Nat) (l0 : List Int) (a1 : Int) (r1 : Int) (r2 : Int) (r3 : Bool) (w : World) (hr0 : Kd.C (Kd.int .u8) w A0 l0.length l0) (hc0 : l0.length ≤ c0) (h : impl_GetU.f k l0 a1 = some (r1,r2,r3)) :
  Calls Try.prog 78 #[.slice A0 l0.length c0,.int .i64 a1] w fun e w'=>e = .returned (.tuple #[.int .i64 r1,.int .i64 r2,.bool r3]) ∧ Drawn0 w w':=by
 have HR0:=aM_ hr0
 have HC0:=aM_ hc0
 clear hr0 hc0
 have H : (impl_GetU.l0 k l0 a1 0 0) = some (r1,r2,r3):=h
 clear h
 have H':=aM_ H
 clear H
 go_enter Try.func78,Try.ntmps78
 go_wp2
 (try simp only [Act.put,sI_,sS_,sZ_])
 go_loopg [7,8] k (fun kq v7 v8 w'=>∃ (x7_1 : Int) (x8_1 : Int),v7 = .int .i64 x7_1 ∧ v8 = .int .i64 x8_1 ∧ Aside0 (impl_GetU.l0 kq l0 a1 x7_1 x8_1 = some (r1,r2,r3)) ∧ Aside0 (kq ≤ k) ∧ Drawn0 w w')
 case atStart=>exact ⟨(0),(0),(by first | rfl | (simp;done) | (simp [*];done)),(by first | rfl | (simp;done) | (simp [*];done)),H', ⟨Nat.le_refl _⟩,by repeat (first | exact Drawn0.refl _ | apply Drawn0.step)⟩
 case round =>
  clear H'
  obtain ⟨x7_1,x8_1,rfl,rfl,HA,HK1,⟨m1,rfl⟩⟩:=hrel
  cases gk with
  | zero=>exact absurd HA.out (by simp [impl_GetU.l0])
  | succ k1 =>
   have H:=HA.out
   clear HA
   simp only [impl_GetU.l0] at H
   have HC3:=aM_ H
   clear H
   go_upto_region 3 with (fail)
   go_cut [23] (fun v23 wc=>∃ (kq : Nat) (x23_2 : Bool),v23 = .bool x23_2 ∧ Aside0 (impl_GetU.j1 kq l0 a1 x7_1 x8_1 x23_2 = some (r1,r2,r3)) ∧ Aside0 (kq ≤ k1) ∧ Drawn0 w wc)
   case first =>
    have H:=HC3.out
    clear HC3
    by_cases c4 : x8_1 < 3
    ·rw [if_pos c4] at H
     have c4b0 : decide (x8_1 < 3) = true:=decide_eq_true c4
     clear c4
     (first | rw [c4b0] | (simp only [i64_w,i32_w];rw [c4b0]) | skip)
     by_cases c5 : a1 ≥ 0
     ·rw [if_pos c5] at H
      have c5b0 : decide (0 ≤ a1) = true:=decide_eq_true c5
      clear c5
      have H':=aM_ H
      clear H
      go_wp2
      (first | go_meet | (refine Met.intro ?_;go_step;(repeat apply Exists.intro);refine ⟨?rel,?eq⟩;(case eq=>(try simp only [c33b0]);(try simp only [c33b0]);(try simp only [c4b0]);rfl)))
      case rel=>exact ⟨_,(decide (a1 < (wrap64 ((l0.length : Int) - x8_1)))),(by first | rfl | (simp;done) | (simp [*];done)),H', ⟨by have:=HK1.out;first | omega | exact Nat.le_refl _⟩,by repeat (first | exact Drawn0.refl _ | apply Drawn0.step)⟩
     ·rw [if_neg c5] at H
      have c5b0 : decide (0 ≤ a1) = false:=decide_eq_false c5
      clear c5
      have H':=aM_ H
      clear H
      go_wp2
      (first | go_meet | (refine Met.intro ?_;go_step;(repeat apply Exists.intro);refine ⟨?rel,?eq⟩;(case eq=>(try simp only [c33b0]);(try simp only [c33b0]);(try simp only [c4b0]);rfl)))
      case rel=>exact ⟨_,(false),(by first | rfl | (simp;done) | (simp [*];done)),H', ⟨by have:=HK1.out;first | omega | exact Nat.le_refl _⟩,by repeat (first | exact Drawn0.refl _ | apply Drawn0.step)⟩
    ·rw [if_neg c4] at H
     have c4b0 : decide (x8_1 < 3) = false:=decide_eq_false c4
     clear c4
     (first | rw [c4b0] | (simp only [i64_w,i32_w];rw [c4b0]) | skip)
     have H':=aM_ H
     clear H
     go_wp2
     (first | go_meet | (refine Met.intro ?_;go_step;(repeat apply Exists.intro);refine ⟨?rel,?eq⟩;(case eq=>(try simp only [c33b0]);(try simp only [c4b0]);(try simp only [c4b0]);rfl)))
     case rel=>exact ⟨_,(false),(by first | rfl | (simp;done) | (simp [*];done)),H', ⟨by have:=HK1.out;first | omega | exact Nat.le_refl _⟩,by repeat (first | exact Drawn0.refl _ | apply Drawn0.step)⟩
   case rest =>
    clear HC3
    obtain ⟨kq,x23_2,rfl,HA,HJ2,⟨mc2,rfl⟩⟩:=hcut
    cases kq with
    | zero=>exact absurd HA.out (by simp [impl_GetU.j1])
    | succ kj2 =>
     have H:=HA.out
     clear HA
     simp only [impl_GetU.j1] at H
     by_cases c6 : x23_2 = true
     ·subst c6
      have H1 : (if 0 ≤ (wrap64 (a1 + x8_1)) then (if (wrap64 (a1 + x8_1)) < (l0.length : Int) then (if 0 ≤ (wrap64 (7 * x8_1)) then (if (wrap64 (rd l0 (wrap64 (a1 + x8_1)))) ≥ 128 then (impl_GetU.l0 kj2 l0 a1 (wrap64 (x7_1 + (shl .i64 (Int.tmod (wrap64 (rd l0 (wrap64 (a1 + x8_1)))) 128) (wrap64 (7 * x8_1))))) (wrap64 (x8_1 + 1))) else (if (wrap64 (rd l0 (wrap64 (a1 + x8_1)))) = 0 then (if x8_1 > 0 then (some (0,0,false)) else (if (wrap64 (x7_1 + (shl .i64 (Int.tmod (wrap64 (rd l0 (wrap64 (a1 + x8_1)))) 128) (wrap64 (7 * x8_1))))) > 1000000 then (some (0,0,false)) else (some (wrap64 (x7_1 + (shl .i64 (Int.tmod (wrap64 (rd l0 (wrap64 (a1 + x8_1)))) 128) (wrap64 (7 * x8_1)))),wrap64 ((wrap64 (a1 + x8_1)) + 1),true)))) else (if (wrap64 (x7_1 + (shl .i64 (Int.tmod (wrap64 (rd l0 (wrap64 (a1 + x8_1)))) 128) (wrap64 (7 * x8_1))))) > 1000000 then (some (0,0,false)) else (some (wrap64 (x7_1 + (shl .i64 (Int.tmod (wrap64 (rd l0 (wrap64 (a1 + x8_1)))) 128) (wrap64 (7 * x8_1)))),wrap64 ((wrap64 (a1 + x8_1)) + 1),true))))) else (none)) else (none)) else (none)) = some (r1,r2,r3):=by rw [if_pos rfl] at H;exact H
      clear H
      have H:=H1
      clear H1
      obtain ⟨ji7,hji7⟩ : ∃ j_ : Int,(wrap64 (a1 + x8_1)) = j_:=⟨_,rfl⟩
      replace H : (if 0 ≤ (ji7) then (if (ji7) < (l0.length : Int) then (if 0 ≤ (wrap64 (7 * x8_1)) then (if (wrap64 (rd l0 (ji7))) ≥ 128 then (impl_GetU.l0 kj2 l0 a1 (wrap64 (x7_1 + (shl .i64 (Int.tmod (wrap64 (rd l0 (ji7))) 128) (wrap64 (7 * x8_1))))) (wrap64 (x8_1 + 1))) else (if (wrap64 (rd l0 (ji7))) = 0 then (if x8_1 > 0 then (some (0,0,false)) else (if (wrap64 (x7_1 + (shl .i64 (Int.tmod (wrap64 (rd l0 (ji7))) 128) (wrap64 (7 * x8_1))))) > 1000000 then (some (0,0,false)) else (some (wrap64 (x7_1 + (shl .i64 (Int.tmod (wrap64 (rd l0 (ji7))) 128) (wrap64 (7 * x8_1)))),wrap64 ((ji7) + 1),true)))) else (if (wrap64 (x7_1 + (shl .i64 (Int.tmod (wrap64 (rd l0 (ji7))) 128) (wrap64 (7 * x8_1))))) > 1000000 then (some (0,0,false)) else (some (wrap64 (x7_1 + (shl .i64 (Int.tmod (wrap64 (rd l0 (ji7))) 128) (wrap64 (7 * x8_1)))),wrap64 ((ji7) + 1),true))))) else (none)) else (none)) else (none)) = some (r1,r2,r3):=by first | (rw [hji7] at H;exact H) | (simp only [hji7] at H ⊢;exact H)
      have hji7w : (IntKind.i64.wrap (a1 + x8_1)) = ji7:=(i64_w _).trans hji7
      by_cases c8 : 0 ≤ (ji7)
      ·rw [if_pos c8] at H
       have c8b0 : decide (0 ≤ (ji7)) = true:=decide_eq_true c8
       clear c8
       by_cases c9 : (ji7) < (l0.length : Int)
       ·rw [if_pos c9] at H
        have c9b0 : decide ((ji7) < (l0.length : Int)) = true:=decide_eq_true c9
        clear c9
        obtain ⟨ji10,hji10⟩ : ∃ j_ : Int,(wrap64 (7 * x8_1)) = j_:=⟨_,rfl⟩
        replace H : (if 0 ≤ (ji10) then (if (wrap64 (rd l0 (ji7))) ≥ 128 then (impl_GetU.l0 kj2 l0 a1 (wrap64 (x7_1 + (shl .i64 (Int.tmod (wrap64 (rd l0 (ji7))) 128) (ji10)))) (wrap64 (x8_1 + 1))) else (if (wrap64 (rd l0 (ji7))) = 0 then (if x8_1 > 0 then (some (0,0,false)) else (if (wrap64 (x7_1 + (shl .i64 (Int.tmod (wrap64 (rd l0 (ji7))) 128) (ji10)))) > 1000000 then (some (0,0,false)) else (some (wrap64 (x7_1 + (shl .i64 (Int.tmod (wrap64 (rd l0 (ji7))) 128) (ji10))),wrap64 ((ji7) + 1),true)))) else (if (wrap64 (x7_1 + (shl .i64 (Int.tmod (wrap64 (rd l0 (ji7))) 128) (ji10)))) > 1000000 then (some (0,0,false)) else (some (wrap64 (x7_1 + (shl .i64 (Int.tmod (wrap64 (rd l0 (ji7))) 128) (ji10))),wrap64 ((ji7) + 1),true))))) else (none)) = some (r1,r2,r3):=by first | (rw [hji10] at H;exact H) | (simp only [hji10] at H ⊢;exact H)
        have hji10w : (IntKind.i64.wrap (7 * x8_1)) = ji10:=(i64_w _).trans hji10
        by_cases c11 : 0 ≤ (ji10)
        ·rw [if_pos c11] at H
         have c11b0:=eq_true c11
         have c11b1 : decide (0 ≤ (ji10)) = true:=decide_eq_true c11
         clear c11
         obtain ⟨ji12,hji12⟩ : ∃ j_ : Int,(shl .i64 (Int.tmod (wrap64 (rd l0 (ji7))) 128) (ji10)) = j_:=⟨_,rfl⟩
         replace H : (if (wrap64 (rd l0 (ji7))) ≥ 128 then (impl_GetU.l0 kj2 l0 a1 (wrap64 (x7_1 + (ji12))) (wrap64 (x8_1 + 1))) else (if (wrap64 (rd l0 (ji7))) = 0 then (if x8_1 > 0 then (some (0,0,false)) else (if (wrap64 (x7_1 + (ji12))) > 1000000 then (some (0,0,false)) else (some (wrap64 (x7_1 + (ji12)),wrap64 ((ji7) + 1),true)))) else (if (wrap64 (x7_1 + (ji12))) > 1000000 then (some (0,0,false)) else (some (wrap64 (x7_1 + (ji12)),wrap64 ((ji7) + 1),true))))) = some (r1,r2,r3):=by first | (rw [hji12] at H;exact H) | (simp only [hji12] at H ⊢;exact H)
         have hji12_ : (IntKind.i64.wrap ((Int.tmod (wrap64 (rd l0 (ji7))) 128) * 2 ^ min (ji10).toNat 64)) = ji12:=hji12
         have hji12z : (ji10) ≤ 64 → (IntKind.i64.wrap ((Int.tmod (wrap64 (rd l0 (ji7))) 128) * 2 ^ (ji10).toNat)) = ji12:=shl_small hji12
         have hji12y : (wrap64 ((Int.tmod (wrap64 (rd l0 (ji7))) 128) * 2 ^ min (ji10).toNat 64)) = ji12:=(i64_w _).symm.trans hji12_
         have hji12x : (ji10) ≤ 64 → (wrap64 ((Int.tmod (wrap64 (rd l0 (ji7))) 128) * 2 ^ (ji10).toNat)) = ji12:=fun h_=>(i64_w _).symm.trans (hji12z h_)
         by_cases c13 : (wrap64 (rd l0 (ji7))) ≥ 128
         ·rw [if_pos c13] at H
          have c13b0 : decide (128 ≤ (wrap64 (rd l0 (ji7)))) = true:=decide_eq_true c13
          clear c13
          have H':=aM_ H
          clear H
          have p249 : 0 ≤ ((ji7) : Int):=oT_ (by first | (with_reducible assumption) | assumption)
          have q249 : (ji7) < (l0.length : Int):=oT_ (by first | (with_reducible assumption) | assumption)
          obtain ⟨ad249,e249,hx249_0⟩:=Kd.at_int HR0.out (ji7) p249 q249
          cases e249
          replace p249:=eq_true p249
          replace q249:=eq_true q249
          go_wp2
          go_roundg kj2
          case measure=>have:=HK1.out;have:=HJ2.out;omega
          case rel=>exact ⟨(wrap64 (x7_1 + (ji12))),(wrap64 (x8_1 + 1)),(by first | rfl | (simp;done) | (simp only [← hji12] <;> (first | rfl | simp)) | (simp [*];done)),(by first | rfl | (simp;done) | (simp [*];done)),H', ⟨by have:=HK1.out;have:=HJ2.out;omega⟩,by repeat (first | exact Drawn0.refl _ | apply Drawn0.step)⟩
         ·rw [if_neg c13] at H
          have c13b0 : decide (128 ≤ (wrap64 (rd l0 (ji7)))) = false:=decide_eq_false c13
          clear c13
          by_cases c14 : (wrap64 (rd l0 (ji7))) = 0
          ·rw [if_pos c14] at H
           have c14b0 : ((wrap64 (rd l0 (ji7))) == 0) = true:=beq_iff_eq.mpr c14
           have c14b1 : ((wrap64 (rd l0 (ji7))) != 0) = false:=bne_eq_false_iff_eq.mpr c14
           clear c14
           by_cases c15 : x8_1 > 0
           ·rw [if_pos c15] at H
            have c15b0 : decide (0 < x8_1) = true:=decide_eq_true c15
            clear c15
            simp only [Option.some.injEq,Prod.mk.injEq] at H
            obtain ⟨rfl,rfl,rfl⟩:=H
            have p249 : 0 ≤ ((ji7) : Int):=oT_ (by first | (with_reducible assumption) | assumption)
            have q249 : (ji7) < (l0.length : Int):=oT_ (by first | (with_reducible assumption) | assumption)
            obtain ⟨ad249,e249,hx249_0⟩:=Kd.at_int HR0.out (ji7) p249 q249
            cases e249
            replace p249:=eq_true p249
            replace q249:=eq_true q249
            go_wp2
            go_ret3
            exact ⟨by first | rfl | (simp;done) | (simp only [← hji7,← hji10,← hji12] <;> (first | rfl | simp)) | (simp [*];done),by repeat (first | exact Drawn0.refl _ | apply Drawn0.step)⟩
           ·rw [if_neg c15] at H
            have c15b0 : decide (0 < x8_1) = false:=decide_eq_false c15
            clear c15
            by_cases c16 : (wrap64 (x7_1 + (ji12))) > 1000000
            ·rw [if_pos c16] at H
             have c16b0 : decide (1000000 < (wrap64 (x7_1 + (ji12)))) = true:=decide_eq_true c16
             clear c16
             simp only [Option.some.injEq,Prod.mk.injEq] at H
             obtain ⟨rfl,rfl,rfl⟩:=H
             have p249 : 0 ≤ ((ji7) : Int):=oT_ (by first | (with_reducible assumption) | assumption)
             have q249 : (ji7) < (l0.length : Int):=oT_ (by first | (with_reducible assumption) | assumption)
             obtain ⟨ad249,e249,hx249_0⟩:=Kd.at_int HR0.out (ji7) p249 q249
             cases e249
             replace p249:=eq_true p249
             replace q249:=eq_true q249
             go_wp2
             go_ret3
             exact ⟨by first | rfl | (simp;done) | (simp only [← hji7,← hji10,← hji12] <;> (first | rfl | simp)) | (simp [*];done),by repeat (first | exact Drawn0.refl _ | apply Drawn0.step)⟩
            ·rw [if_neg c16] at H
             have c16b0 : decide (1000000 < (wrap64 (x7_1 + (ji12)))) = false:=decide_eq_false c16
             clear c16
             simp only [Option.some.injEq,Prod.mk.injEq] at H
             obtain ⟨rfl,rfl,rfl⟩:=H
             have p249 : 0 ≤ ((ji7) : Int):=oT_ (by first | (with_reducible assumption) | assumption)
             have q249 : (ji7) < (l0.length : Int):=oT_ (by first | (with_reducible assumption) | assumption)
             obtain ⟨ad249,e249,hx249_0⟩:=Kd.at_int HR0.out (ji7) p249 q249
             cases e249
             replace p249:=eq_true p249
             replace q249:=eq_true q249
             go_wp2
             go_ret3
             exact ⟨by first | rfl | (simp;done) | (simp only [← hji7,← hji10,← hji12] <;> (first | rfl | simp)) | (simp [*];done),by repeat (first | exact Drawn0.refl _ | apply Drawn0.step)⟩
          ·rw [if_neg c14] at H
           have c14b0 : ((wrap64 (rd l0 (ji7))) == 0) = false:=beq_eq_false_iff_ne.mpr c14
           have c14b1 : ((wrap64 (rd l0 (ji7))) != 0) = true:=bne_iff_ne.mpr c14
           by_cases c17 : (wrap64 (x7_1 + (ji12))) > 1000000
           ·rw [if_pos c17] at H
            have c17b0 : decide (1000000 < (wrap64 (x7_1 + (ji12)))) = true:=decide_eq_true c17
            clear c17
            simp only [Option.some.injEq,Prod.mk.injEq] at H
            obtain ⟨rfl,rfl,rfl⟩:=H
            have p249 : 0 ≤ ((ji7) : Int):=oT_ (by first | (with_reducible assumption) | assumption)
            have q249 : (ji7) < (l0.length : Int):=oT_ (by first | (with_reducible assumption) | assumption)
            obtain ⟨ad249,e249,hx249_0⟩:=Kd.at_int HR0.out (ji7) p249 q249
            cases e249
            replace p249:=eq_true p249
            replace q249:=eq_true q249
            go_wp2
            go_ret3
            exact ⟨by first | rfl | (simp;done) | (simp only [← hji7,← hji10,← hji12] <;> (first | rfl | simp)) | (simp [*];done),by repeat (first | exact Drawn0.refl _ | apply Drawn0.step)⟩
           ·rw [if_neg c17] at H
            have c17b0 : decide (1000000 < (wrap64 (x7_1 + (ji12)))) = false:=decide_eq_false c17
            clear c17
            simp only [Option.some.injEq,Prod.mk.injEq] at H
            obtain ⟨rfl,rfl,rfl⟩:=H
            have p249 : 0 ≤ ((ji7) : Int):=oT_ (by first | (with_reducible assumption) | assumption)
            have q249 : (ji7) < (l0.length : Int):=oT_ (by first | (with_reducible assumption) | assumption)
            obtain ⟨ad249,e249,hx249_0⟩:=Kd.at_int HR0.out (ji7) p249 q249
            cases e249
            replace p249:=eq_true p249
            replace q249:=eq_true q249
            go_wp2
            go_ret3
            exact ⟨by first | rfl | (simp;done) | (simp only [← hji7,← hji10,← hji12] <;> (first | rfl | simp)) | (simp [*];done),by repeat (first | exact Drawn0.refl _ | apply Drawn0.step)⟩
        ·rw [if_neg c11] at H
         exact absurd H (by simp)
       ·rw [if_neg c9] at H
        exact absurd H (by simp)
      ·rw [if_neg c8] at H
       exact absurd H (by simp)
     ·replace c6:=Bool.eq_false_iff.mpr c6
      subst c6
      have H1 : (some (0,0,false)) = some (r1,r2,r3):=by rw [if_neg (show ¬ (false = true) by decide)] at H;exact H
      clear H
      have H:=H1
      clear H1
      simp only [Option.some.injEq,Prod.mk.injEq] at H
      obtain ⟨rfl,rfl,rfl⟩:=H
      go_wp2
      go_ret3
      exact ⟨by first | rfl | (simp;done) | (simp [*];done),by repeat (first | exact Drawn0.refl _ | apply Drawn0.step)⟩
def impl_GetText.f (k : Nat) (l0 : List Int) (a1 : Int) : Option (ByteArray × Int × Bool):=(impl_GetU.f k l0 a1).bind fun bt250=>(if bt250.2.2 = true then (if bt250.1 > (wrap64 ((l0.length : Int) - bt250.2.1)) then (some ((⟨#[]⟩ : ByteArray),0,false)) else (if 0 ≤ bt250.2.1 then (if bt250.2.1 ≤ (wrap64 (bt250.2.1 + bt250.1)) then (if (wrap64 (bt250.2.1 + bt250.1)) ≤ (l0.length : Int) then (some (strOfNums ((l0.take ((wrap64 (bt250.2.1 + bt250.1)) : Int).toNat).drop (bt250.2.1 : Int).toNat),wrap64 (bt250.2.1 + bt250.1),true)) else (none)) else (none)) else (none))) else (some ((⟨#[]⟩ : ByteArray),0,false)))
theorem impl_GetText.mono : ∀ a0 a1 k,LeO (impl_GetText.f k a0 a1) (impl_GetText.f (k + 1) a0 a1):=by
 intro a0 a1 k
 unfold impl_GetText.f
 repeat' first
   | (with_reducible exact impl_GetU.mono _ _ _)
   | (with_reducible exact LeO.refl _)
   | (with_reducible exact LeO.none _)
   | (with_reducible refine LeO.ite ?_ ?_)
   | (with_reducible refine LeO.bind ?_ (fun _=>?_))
   | exact impl_GetU.mono _ _ _
   | exact LeO.none _
   | refine LeO.ite ?_ ?_
   | refine LeO.bind ?_ (fun _=>?_)
set_option maxHeartbeats 8000000 in
set_option maxRecDepth 100000 in
theorem impl_GetText.calls (k : Nat) (A0 : Option Addr) (c0 : Nat) (l0 : List Int) (a1 : Int) (r1 : ByteArray) (r2 : Int) (r3 : Bool) (w : World) (hr0 : Kd.C (Kd.int .u8) w A0 l0.length l0) (hc0 : l0.length ≤ c0) (h : impl_GetText.f k l0 a1 = some (r1,r2,r3)) :
  Calls Try.prog 80 #[.slice A0 l0.length c0,.int .i64 a1] w fun e w'=>e = .returned (.tuple #[.string r1,.int .i64 r2,.bool r3]) ∧ Drawn0 w w':=by
 have HR0:=aM_ hr0
 have HC0:=aM_ hc0
 clear hr0 hc0
 have H : ((impl_GetU.f k l0 a1).bind fun bt250=>(if bt250.2.2 = true then (if bt250.1 > (wrap64 ((l0.length : Int) - bt250.2.1)) then (some ((⟨#[]⟩ : ByteArray),0,false)) else (if 0 ≤ bt250.2.1 then (if bt250.2.1 ≤ (wrap64 (bt250.2.1 + bt250.1)) then (if (wrap64 (bt250.2.1 + bt250.1)) ≤ (l0.length : Int) then (some (strOfNums ((l0.take ((wrap64 (bt250.2.1 + bt250.1)) : Int).toNat).drop (bt250.2.1 : Int).toNat),wrap64 (bt250.2.1 + bt250.1),true)) else (none)) else (none)) else (none))) else (some ((⟨#[]⟩ : ByteArray),0,false)))) = some (r1,r2,r3):=h
 clear h
 replace H:=oB_ H
 obtain ⟨⟨t250,t251,t252⟩,A30,H⟩:=H
 replace H : (if t252 = true then (if t250 > (wrap64 ((l0.length : Int) - t251)) then (some ((⟨#[]⟩ : ByteArray),0,false)) else (if 0 ≤ t251 then (if t251 ≤ (wrap64 (t251 + t250)) then (if (wrap64 (t251 + t250)) ≤ (l0.length : Int) then (some (strOfNums ((l0.take ((wrap64 (t251 + t250)) : Int).toNat).drop (t251 : Int).toNat),wrap64 (t251 + t250),true)) else (none)) else (none)) else (none))) else (some ((⟨#[]⟩ : ByteArray),0,false))) = some (r1,r2,r3):=H
 have A3:=aM_ A30
 clear A30
 by_cases c4 : t252 = true
 ·subst c4
  have H1 : (if t250 > (wrap64 ((l0.length : Int) - t251)) then (some ((⟨#[]⟩ : ByteArray),0,false)) else (if 0 ≤ t251 then (if t251 ≤ (wrap64 (t251 + t250)) then (if (wrap64 (t251 + t250)) ≤ (l0.length : Int) then (some (strOfNums ((l0.take ((wrap64 (t251 + t250)) : Int).toNat).drop (t251 : Int).toNat),wrap64 (t251 + t250),true)) else (none)) else (none)) else (none))) = some (r1,r2,r3):=by rw [if_pos rfl] at H;exact H
  clear H
  have H:=H1
  clear H1
  by_cases c5 : t250 > (wrap64 ((l0.length : Int) - t251))
  ·rw [if_pos c5] at H
   have c5b0 : decide ((wrap64 ((l0.length : Int) - t251)) < t250) = true:=decide_eq_true c5
   clear c5
   simp only [Option.some.injEq,Prod.mk.injEq] at H
   obtain ⟨rfl,rfl,rfl⟩:=H
   go_enter Try.func80,Try.ntmps80
   go_wp2_with (first | ((with_reducible refine gate_callee (f:=78) rfl ?_);refine goesL_ (some 13) rfl rfl Try.func78 (by kernel_rfl) rfl #[.slice A0 l0.length c0,.int .i64 a1] rfl (by (try simp only [mA_,mC_,mN_]);first | done | rfl | (simp only [lD_,lT_];rfl)) ?_;(with_reducible refine (impl_GetU.calls k _ _ l0 a1 t250 t251 true _ ?side1 ?side2 A3.out).mono ?_);(case side1=>repeat (first | exact HR0.out | (with_reducible refine cA_ ?_ _) | (with_reducible refine cN_ ?_ _) | (with_reducible refine cD_ ?_)));(case side2=>exact HC0.out);rintro e w' ⟨rfl,⟨nd,rfl⟩⟩;refine ⟨_,rfl,?_⟩))
   go_ret3
   exact ⟨by first | rfl | (simp;done) | (simp [*];done),by repeat (first | exact Drawn0.refl _ | apply Drawn0.step)⟩
  ·rw [if_neg c5] at H
   have c5b0 : decide ((wrap64 ((l0.length : Int) - t251)) < t250) = false:=decide_eq_false c5
   clear c5
   by_cases c6 : 0 ≤ t251
   ·rw [if_pos c6] at H
    have c6b0:=eq_true c6
    have c6b1 : decide (0 ≤ t251) = true:=decide_eq_true c6
    clear c6
    by_cases c7 : t251 ≤ (wrap64 (t251 + t250))
    ·rw [if_pos c7] at H
     have c7b0:=eq_true c7
     have c7b1 : decide (t251 ≤ (wrap64 (t251 + t250))) = true:=decide_eq_true c7
     by_cases c8 : (wrap64 (t251 + t250)) ≤ (l0.length : Int)
     ·rw [if_pos c8] at H
      have c8b0:=eq_true c8
      have c8b1 : decide ((wrap64 (t251 + t250)) ≤ (l0.length : Int)) = true:=decide_eq_true c8
      simp only [Option.some.injEq,Prod.mk.injEq] at H
      obtain ⟨rfl,rfl,rfl⟩:=H
      go_enter Try.func80,Try.ntmps80
      go_wp2_with (first | ((with_reducible refine gate_callee (f:=78) rfl ?_);refine goesL_ (some 13) rfl rfl Try.func78 (by kernel_rfl) rfl #[.slice A0 l0.length c0,.int .i64 a1] rfl (by (try simp only [mA_,mC_,mN_]);first | done | rfl | (simp only [lD_,lT_];rfl)) ?_;(with_reducible refine (impl_GetU.calls k _ _ l0 a1 t250 t251 true _ ?side1 ?side2 A3.out).mono ?_);(case side1=>repeat (first | exact HR0.out | (with_reducible refine cA_ ?_ _) | (with_reducible refine cN_ ?_ _) | (with_reducible refine cD_ ?_)));(case side2=>exact HC0.out);rintro e w' ⟨rfl,⟨nd,rfl⟩⟩;refine ⟨_,rfl,?_⟩;obtain ⟨i09,hi09,_,hsz9,_⟩:=info_parts info5;obtain ⟨A9,hcut9,hA9,hC9⟩:=print_mid_of (P:=Try.prog) (Value.int .u8) 0 27 5 .i64 .i64 Try.underlying27 hi09 hsz9 A0 c0 l0 t251 (wrap64 (t251 + t250)) (oT_ (by first | (with_reducible assumption) | assumption)) (by first | omega | exact oT_ (by first | (with_reducible assumption) | assumption)) (oT_ (by first | (with_reducible assumption) | assumption)) HC0.out;have HR253:=aM_ (Kd.C_of_reads (h1:=fun _=>rfl) (hA9 _ (Kd.reads_of_C HR0.out)));have HC253:=aM_ hC9;clear hA9 hC9 hi09 hsz9;have hcv10:=Kd.C_string (P:=Try.prog) (A:=A9) (c:=(c0 - t251.toNat)) Try.underlying27 Try.underlying5 Try.underlying9 HR253.out;have hcw254:=fun (n_ : Nat)=>Kd.C_string (P:=Try.prog) (A:=A9) (c:=(c0 - t251.toNat)) Try.underlying27 Try.underlying5 Try.underlying9 (cN_ (HR253.out) n_);simp only [lD_,lT_] at hcw254;have hcw254m : min ((wrap64 (t251 + t250)) : Int).toNat l0.length = ((wrap64 (t251 + t250)) : Int).toNat:=Nat.min_eq_left (by omega);have hcw254a:=hcw254;simp only [hcw254m] at hcw254a;clear hcw254m))
      go_ret3
      exact ⟨by first | rfl | (simp;done) | (simp [*];done),by repeat (first | exact Drawn0.refl _ | apply Drawn0.step)⟩
     ·rw [if_neg c8] at H
      exact absurd H (by simp)
    ·rw [if_neg c7] at H
     exact absurd H (by simp)
   ·rw [if_neg c6] at H
    exact absurd H (by simp)
 ·replace c4:=Bool.eq_false_iff.mpr c4
  subst c4
  have H1 : (some ((⟨#[]⟩ : ByteArray),0,false)) = some (r1,r2,r3):=by rw [if_neg (show ¬ (false = true) by decide)] at H;exact H
  clear H
  have H:=H1
  clear H1
  simp only [Option.some.injEq,Prod.mk.injEq] at H
  obtain ⟨rfl,rfl,rfl⟩:=H
  go_enter Try.func80,Try.ntmps80
  go_wp2_with (first | ((with_reducible refine gate_callee (f:=78) rfl ?_);refine goesL_ (some 13) rfl rfl Try.func78 (by kernel_rfl) rfl #[.slice A0 l0.length c0,.int .i64 a1] rfl (by (try simp only [mA_,mC_,mN_]);first | done | rfl | (simp only [lD_,lT_];rfl)) ?_;(with_reducible refine (impl_GetU.calls k _ _ l0 a1 t250 t251 false _ ?side1 ?side2 A3.out).mono ?_);(case side1=>repeat (first | exact HR0.out | (with_reducible refine cA_ ?_ _) | (with_reducible refine cN_ ?_ _) | (with_reducible refine cD_ ?_)));(case side2=>exact HC0.out);rintro e w' ⟨rfl,⟨nd,rfl⟩⟩;refine ⟨_,rfl,?_⟩))
  go_ret3
  exact ⟨by first | rfl | (simp;done) | (simp [*];done),by repeat (first | exact Drawn0.refl _ | apply Drawn0.step)⟩
end Go.Proofs.Ytllgmgpfdnofmaa.PFnNodes
