import Derived.Test.YtllgmgpfdnofmaaZNDPFnNodesx0
namespace Go.Proofs.Ytllgmgpfdnofmaa.PFnNodes
open Go.RowKit Go.Proofs.YtllgmgpfdnofmaaW.PrintWords Go.Proofs.YtllgmgpfdnofmaaW.PrintLast Go.Proofs.YtllgmgpfdnofmaaW.PrintMore Go.Proofs.Ytllgmgpfdnofmaa.Xtra
attribute [local go_sem] max2_int min2_int max_two min_two max_three min_three max_four min_four str_leq str_gtr str_geq setCell_drewN cell_set2 cell_set3   -- for this text's walks alone
set_option linter.unusedVariables false
set_option linter.unusedSimpArgs false
mutual
def spec_GetU.l0 : Nat → List Int → Int → Int → Int → Option (Int × Int × Bool)
 | 0,_,_,_,_=>none
 | k + 1,x0,x1,x7,x8=>if x8 < 3 then (if x1 ≥ 0 then (if x1 < (x0.length : Int) then (spec_GetU.j1 k x0 x1 x7 x8 (decide ((wrap64 (x1 + x8)) < (x0.length : Int)))) else (spec_GetU.j1 k x0 x1 x7 x8 false)) else (spec_GetU.j1 k x0 x1 x7 x8 false)) else (spec_GetU.j1 k x0 x1 x7 x8 false)
def spec_GetU.j1 : Nat → List Int → Int → Int → Int → Bool → Option (Int × Int × Bool)
 | 0,_,_,_,_,_=>none
 | k + 1,x0,x1,x7,x8,x29=>if x29 = true then (if 0 ≤ (wrap64 (x1 + x8)) then (if (wrap64 (x1 + x8)) < (x0.length : Int) then (if 0 ≤ (IntKind.u64.wrap (wrap64 (7 * x8))) then (if (wrap64 (rd x0 (wrap64 (x1 + x8)))) > 127 then (spec_GetU.l0 k x0 x1 (Go.bits .or .i64 x7 (shl .i64 (Go.bits .and .i64 (wrap64 (rd x0 (wrap64 (x1 + x8)))) 127) (IntKind.u64.wrap (wrap64 (7 * x8))))) (wrap64 (x8 + 1))) else (if x8 > 0 then (if (wrap64 (rd x0 (wrap64 (x1 + x8)))) = 0 then (some (0,0,false)) else (if (Go.bits .or .i64 x7 (shl .i64 (Go.bits .and .i64 (wrap64 (rd x0 (wrap64 (x1 + x8)))) 127) (IntKind.u64.wrap (wrap64 (7 * x8))))) > 1000000 then (some (0,0,false)) else (some (Go.bits .or .i64 x7 (shl .i64 (Go.bits .and .i64 (wrap64 (rd x0 (wrap64 (x1 + x8)))) 127) (IntKind.u64.wrap (wrap64 (7 * x8)))),wrap64 ((wrap64 (x1 + x8)) + 1),true)))) else (if (Go.bits .or .i64 x7 (shl .i64 (Go.bits .and .i64 (wrap64 (rd x0 (wrap64 (x1 + x8)))) 127) (IntKind.u64.wrap (wrap64 (7 * x8))))) > 1000000 then (some (0,0,false)) else (some (Go.bits .or .i64 x7 (shl .i64 (Go.bits .and .i64 (wrap64 (rd x0 (wrap64 (x1 + x8)))) 127) (IntKind.u64.wrap (wrap64 (7 * x8)))),wrap64 ((wrap64 (x1 + x8)) + 1),true))))) else (none)) else (none)) else (none)) else (some (0,0,false))
end
def spec_GetU.f (k : Nat) (l0 : List Int) (a1 : Int) : Option (Int × Int × Bool):=spec_GetU.l0 k l0 a1 0 0
theorem spec_GetU.mono_l : ∀ k,(∀ y0 y1 y2 y3,LeO (spec_GetU.l0 k y0 y1 y2 y3) (spec_GetU.l0 (k + 1) y0 y1 y2 y3)) ∧ (∀ y0 y1 y2 y3 y4,LeO (spec_GetU.j1 k y0 y1 y2 y3 y4) (spec_GetU.j1 (k + 1) y0 y1 y2 y3 y4))
 | 0=>⟨fun _ _ _ _ r h=>by simp [spec_GetU.l0] at h,fun _ _ _ _ _ r h=>by simp [spec_GetU.j1] at h⟩
 | k + 1=>by
  obtain ⟨ih0,ih1⟩:=spec_GetU.mono_l k
  refine ⟨?_,?_⟩
  ·intro y0 y1 y2 y3
   unfold spec_GetU.l0
   repeat' first
   | (with_reducible exact ih0 _ _ _ _)
   | (with_reducible exact ih1 _ _ _ _ _)
   | (with_reducible exact LeO.refl _)
   | (with_reducible exact LeO.none _)
   | (with_reducible refine LeO.ite ?_ ?_)
   | (with_reducible refine LeO.bind ?_ (fun _=>?_))
   | exact ih0 _ _ _ _
   | exact ih1 _ _ _ _ _
   | exact LeO.none _
   | refine LeO.ite ?_ ?_
   | refine LeO.bind ?_ (fun _=>?_)
  ·intro y0 y1 y2 y3 y4
   unfold spec_GetU.j1
   repeat' first
   | (with_reducible exact ih0 _ _ _ _)
   | (with_reducible exact ih1 _ _ _ _ _)
   | (with_reducible exact LeO.refl _)
   | (with_reducible exact LeO.none _)
   | (with_reducible refine LeO.ite ?_ ?_)
   | (with_reducible refine LeO.bind ?_ (fun _=>?_))
   | exact ih0 _ _ _ _
   | exact ih1 _ _ _ _ _
   | exact LeO.none _
   | refine LeO.ite ?_ ?_
   | refine LeO.bind ?_ (fun _=>?_)
theorem spec_GetU.mono : ∀ a0 a1 k,LeO (spec_GetU.f k a0 a1) (spec_GetU.f (k + 1) a0 a1):=by
 intro a0 a1 k
 obtain ⟨ih0,ih1⟩:=spec_GetU.mono_l k
 unfold spec_GetU.f
 repeat' first
   | (with_reducible exact ih0 _ _ _ _)
   | (with_reducible exact ih1 _ _ _ _ _)
   | (with_reducible exact LeO.refl _)
   | (with_reducible exact LeO.none _)
   | (with_reducible refine LeO.ite ?_ ?_)
   | (with_reducible refine LeO.bind ?_ (fun _=>?_))
   | exact ih0 _ _ _ _
   | exact ih1 _ _ _ _ _
   | exact LeO.none _
   | refine LeO.ite ?_ ?_
   | refine LeO.bind ?_ (fun _=>?_)
set_option maxHeartbeats 8000000 in
set_option maxRecDepth 100000 in
theorem spec_GetU.calls (k : Nat) (A0 : Option Addr) (c0 : Nat) (l0 : List Int) (a1 : Int) (r1 : Int) (r2 : Int) (r3 : Bool) (w : World) (hr0 : Kd.C (Kd.int .u8) w A0 l0.length l0) (hc0 : l0.length ≤ c0) (h : spec_GetU.f k l0 a1 = some (r1,r2,r3)) :
  Calls Try.prog 117 #[.slice A0 l0.length c0,.int .i64 a1] w fun e w'=>e = .returned (.tuple #[.int .i64 r1,.int .i64 r2,.bool r3]) ∧ Drawn0 w w':=by
 have HR0:=aM_ hr0
 have HC0:=aM_ hc0
 clear hr0 hc0
 have H : (spec_GetU.l0 k l0 a1 0 0) = some (r1,r2,r3):=h
 clear h
 have H':=aM_ H
 clear H
 go_enter Try.func117,Try.ntmps117
 go_wp2
 (try simp only [Act.put,sI_,sS_,sZ_])
 go_loopg [7,8] k (fun kq v7 v8 w'=>∃ (x7_1 : Int) (x8_1 : Int),v7 = .int .i64 x7_1 ∧ v8 = .int .i64 x8_1 ∧ Aside0 (spec_GetU.l0 kq l0 a1 x7_1 x8_1 = some (r1,r2,r3)) ∧ Aside0 (kq ≤ k) ∧ Drawn0 w w')
 case atStart=>exact ⟨(0),(0),(by first | rfl | (simp;done) | (simp [*];done)),(by first | rfl | (simp;done) | (simp [*];done)),H', ⟨Nat.le_refl _⟩,by repeat (first | exact Drawn0.refl _ | apply Drawn0.step)⟩
 case round =>
  clear H'
  obtain ⟨x7_1,x8_1,rfl,rfl,HA,HK1,⟨m1,rfl⟩⟩:=hrel
  cases gk with
  | zero=>exact absurd HA.out (by simp [spec_GetU.l0])
  | succ k1 =>
   have H:=HA.out
   clear HA
   simp only [spec_GetU.l0] at H
   have HC3:=aM_ H
   clear H
   go_upto_region 3 with (fail)
   go_cut [29] (fun v29 wc=>∃ (kq : Nat) (x29_2 : Bool),v29 = .bool x29_2 ∧ Aside0 (spec_GetU.j1 kq l0 a1 x7_1 x8_1 x29_2 = some (r1,r2,r3)) ∧ Aside0 (kq ≤ k1) ∧ Drawn0 w wc)
   case first =>
    have H:=HC3.out
    clear HC3
    by_cases c4 : x8_1 < 3
    ·rw [if_pos c4] at H
     have c4b0 : decide (x8_1 < 3) = true:=decide_eq_true c4
     clear c4
     (first | rw [c4b0] | (simp only [i64_w,i32_w];rw [c4b0]) | skip)
     by_cases c5 : a1 ≥ 0
     ·rw [if_pos c5] at H
      have c5b0 : decide (0 ≤ a1) = true:=decide_eq_true c5
      clear c5
      by_cases c6 : a1 < (l0.length : Int)
      ·rw [if_pos c6] at H
       have c6b0 : decide (a1 < (l0.length : Int)) = true:=decide_eq_true c6
       clear c6
       have H':=aM_ H
       clear H
       go_wp2
       (first | go_meet | (refine Met.intro ?_;go_step;(repeat apply Exists.intro);refine ⟨?rel,?eq⟩;(case eq=>(try simp only [c23b0]);(try simp only [c23b0]);(try simp only [c4b0]);rfl)))
       case rel=>exact ⟨_,(decide ((wrap64 (a1 + x8_1)) < (l0.length : Int))),(by first | rfl | (simp;done) | (simp [*];done)),H', ⟨by have:=HK1.out;first | omega | exact Nat.le_refl _⟩,by repeat (first | exact Drawn0.refl _ | apply Drawn0.step)⟩
      ·rw [if_neg c6] at H
       have c6b0 : decide (a1 < (l0.length : Int)) = false:=decide_eq_false c6
       clear c6
       have H':=aM_ H
       clear H
       go_wp2
       (first | go_meet | (refine Met.intro ?_;go_step;(repeat apply Exists.intro);refine ⟨?rel,?eq⟩;(case eq=>(try simp only [c23b0]);(try simp only [c23b0]);(try simp only [c4b0]);rfl)))
       case rel=>exact ⟨_,(false),(by first | rfl | (simp;done) | (simp [*];done)),H', ⟨by have:=HK1.out;first | omega | exact Nat.le_refl _⟩,by repeat (first | exact Drawn0.refl _ | apply Drawn0.step)⟩
     ·rw [if_neg c5] at H
      have c5b0 : decide (0 ≤ a1) = false:=decide_eq_false c5
      clear c5
      have H':=aM_ H
      clear H
      go_wp2
      (first | go_meet | (refine Met.intro ?_;go_step;(repeat apply Exists.intro);refine ⟨?rel,?eq⟩;(case eq=>(try simp only [c23b0]);(try simp only [c23b0]);(try simp only [c4b0]);rfl)))
      case rel=>exact ⟨_,(false),(by first | rfl | (simp;done) | (simp [*];done)),H', ⟨by have:=HK1.out;first | omega | exact Nat.le_refl _⟩,by repeat (first | exact Drawn0.refl _ | apply Drawn0.step)⟩
    ·rw [if_neg c4] at H
     have c4b0 : decide (x8_1 < 3) = false:=decide_eq_false c4
     clear c4
     (first | rw [c4b0] | (simp only [i64_w,i32_w];rw [c4b0]) | skip)
     have H':=aM_ H
     clear H
     go_wp2
     (first | go_meet | (refine Met.intro ?_;go_step;(repeat apply Exists.intro);refine ⟨?rel,?eq⟩;(case eq=>(try simp only [c23b0]);(try simp only [c4b0]);(try simp only [c4b0]);rfl)))
     case rel=>exact ⟨_,(false),(by first | rfl | (simp;done) | (simp [*];done)),H', ⟨by have:=HK1.out;first | omega | exact Nat.le_refl _⟩,by repeat (first | exact Drawn0.refl _ | apply Drawn0.step)⟩
   case rest =>
    clear HC3
    obtain ⟨kq,x29_2,rfl,HA,HJ2,⟨mc2,rfl⟩⟩:=hcut
    cases kq with
    | zero=>exact absurd HA.out (by simp [spec_GetU.j1])
    | succ kj2 =>
     have H:=HA.out
     clear HA
     simp only [spec_GetU.j1] at H
     by_cases c7 : x29_2 = true
     ·subst c7
      have H1 : (if 0 ≤ (wrap64 (a1 + x8_1)) then (if (wrap64 (a1 + x8_1)) < (l0.length : Int) then (if 0 ≤ (IntKind.u64.wrap (wrap64 (7 * x8_1))) then (if (wrap64 (rd l0 (wrap64 (a1 + x8_1)))) > 127 then (spec_GetU.l0 kj2 l0 a1 (Go.bits .or .i64 x7_1 (shl .i64 (Go.bits .and .i64 (wrap64 (rd l0 (wrap64 (a1 + x8_1)))) 127) (IntKind.u64.wrap (wrap64 (7 * x8_1))))) (wrap64 (x8_1 + 1))) else (if x8_1 > 0 then (if (wrap64 (rd l0 (wrap64 (a1 + x8_1)))) = 0 then (some (0,0,false)) else (if (Go.bits .or .i64 x7_1 (shl .i64 (Go.bits .and .i64 (wrap64 (rd l0 (wrap64 (a1 + x8_1)))) 127) (IntKind.u64.wrap (wrap64 (7 * x8_1))))) > 1000000 then (some (0,0,false)) else (some (Go.bits .or .i64 x7_1 (shl .i64 (Go.bits .and .i64 (wrap64 (rd l0 (wrap64 (a1 + x8_1)))) 127) (IntKind.u64.wrap (wrap64 (7 * x8_1)))),wrap64 ((wrap64 (a1 + x8_1)) + 1),true)))) else (if (Go.bits .or .i64 x7_1 (shl .i64 (Go.bits .and .i64 (wrap64 (rd l0 (wrap64 (a1 + x8_1)))) 127) (IntKind.u64.wrap (wrap64 (7 * x8_1))))) > 1000000 then (some (0,0,false)) else (some (Go.bits .or .i64 x7_1 (shl .i64 (Go.bits .and .i64 (wrap64 (rd l0 (wrap64 (a1 + x8_1)))) 127) (IntKind.u64.wrap (wrap64 (7 * x8_1)))),wrap64 ((wrap64 (a1 + x8_1)) + 1),true))))) else (none)) else (none)) else (none)) = some (r1,r2,r3):=by rw [if_pos rfl] at H;exact H
      clear H
      have H:=H1
      clear H1
      obtain ⟨ji8,hji8⟩ : ∃ j_ : Int,(wrap64 (a1 + x8_1)) = j_:=⟨_,rfl⟩
      replace H : (if 0 ≤ (ji8) then (if (ji8) < (l0.length : Int) then (if 0 ≤ (IntKind.u64.wrap (wrap64 (7 * x8_1))) then (if (wrap64 (rd l0 (ji8))) > 127 then (spec_GetU.l0 kj2 l0 a1 (Go.bits .or .i64 x7_1 (shl .i64 (Go.bits .and .i64 (wrap64 (rd l0 (ji8))) 127) (IntKind.u64.wrap (wrap64 (7 * x8_1))))) (wrap64 (x8_1 + 1))) else (if x8_1 > 0 then (if (wrap64 (rd l0 (ji8))) = 0 then (some (0,0,false)) else (if (Go.bits .or .i64 x7_1 (shl .i64 (Go.bits .and .i64 (wrap64 (rd l0 (ji8))) 127) (IntKind.u64.wrap (wrap64 (7 * x8_1))))) > 1000000 then (some (0,0,false)) else (some (Go.bits .or .i64 x7_1 (shl .i64 (Go.bits .and .i64 (wrap64 (rd l0 (ji8))) 127) (IntKind.u64.wrap (wrap64 (7 * x8_1)))),wrap64 ((ji8) + 1),true)))) else (if (Go.bits .or .i64 x7_1 (shl .i64 (Go.bits .and .i64 (wrap64 (rd l0 (ji8))) 127) (IntKind.u64.wrap (wrap64 (7 * x8_1))))) > 1000000 then (some (0,0,false)) else (some (Go.bits .or .i64 x7_1 (shl .i64 (Go.bits .and .i64 (wrap64 (rd l0 (ji8))) 127) (IntKind.u64.wrap (wrap64 (7 * x8_1)))),wrap64 ((ji8) + 1),true))))) else (none)) else (none)) else (none)) = some (r1,r2,r3):=by first | (rw [hji8] at H;exact H) | (simp only [hji8] at H ⊢;exact H)
      have hji8w : (IntKind.i64.wrap (a1 + x8_1)) = ji8:=(i64_w _).trans hji8
      by_cases c9 : 0 ≤ (ji8)
      ·rw [if_pos c9] at H
       have c9b0 : decide (0 ≤ (ji8)) = true:=decide_eq_true c9
       clear c9
       by_cases c10 : (ji8) < (l0.length : Int)
       ·rw [if_pos c10] at H
        have c10b0 : decide ((ji8) < (l0.length : Int)) = true:=decide_eq_true c10
        clear c10
        obtain ⟨ji11,hji11⟩ : ∃ j_ : Int,(IntKind.u64.wrap (wrap64 (7 * x8_1))) = j_:=⟨_,rfl⟩
        replace H : (if 0 ≤ (ji11) then (if (wrap64 (rd l0 (ji8))) > 127 then (spec_GetU.l0 kj2 l0 a1 (Go.bits .or .i64 x7_1 (shl .i64 (Go.bits .and .i64 (wrap64 (rd l0 (ji8))) 127) (ji11))) (wrap64 (x8_1 + 1))) else (if x8_1 > 0 then (if (wrap64 (rd l0 (ji8))) = 0 then (some (0,0,false)) else (if (Go.bits .or .i64 x7_1 (shl .i64 (Go.bits .and .i64 (wrap64 (rd l0 (ji8))) 127) (ji11))) > 1000000 then (some (0,0,false)) else (some (Go.bits .or .i64 x7_1 (shl .i64 (Go.bits .and .i64 (wrap64 (rd l0 (ji8))) 127) (ji11)),wrap64 ((ji8) + 1),true)))) else (if (Go.bits .or .i64 x7_1 (shl .i64 (Go.bits .and .i64 (wrap64 (rd l0 (ji8))) 127) (ji11))) > 1000000 then (some (0,0,false)) else (some (Go.bits .or .i64 x7_1 (shl .i64 (Go.bits .and .i64 (wrap64 (rd l0 (ji8))) 127) (ji11)),wrap64 ((ji8) + 1),true))))) else (none)) = some (r1,r2,r3):=by first | (rw [hji11] at H;exact H) | (simp only [hji11] at H ⊢;exact H)
        by_cases c12 : 0 ≤ (ji11)
        ·rw [if_pos c12] at H
         have c12b0:=eq_true c12
         have c12b1 : decide (0 ≤ (ji11)) = true:=decide_eq_true c12
         clear c12
         obtain ⟨ji13,hji13⟩ : ∃ j_ : Int,(shl .i64 (Go.bits .and .i64 (wrap64 (rd l0 (ji8))) 127) (ji11)) = j_:=⟨_,rfl⟩
         replace H : (if (wrap64 (rd l0 (ji8))) > 127 then (spec_GetU.l0 kj2 l0 a1 (Go.bits .or .i64 x7_1 (ji13)) (wrap64 (x8_1 + 1))) else (if x8_1 > 0 then (if (wrap64 (rd l0 (ji8))) = 0 then (some (0,0,false)) else (if (Go.bits .or .i64 x7_1 (ji13)) > 1000000 then (some (0,0,false)) else (some (Go.bits .or .i64 x7_1 (ji13),wrap64 ((ji8) + 1),true)))) else (if (Go.bits .or .i64 x7_1 (ji13)) > 1000000 then (some (0,0,false)) else (some (Go.bits .or .i64 x7_1 (ji13),wrap64 ((ji8) + 1),true))))) = some (r1,r2,r3):=by first | (rw [hji13] at H;exact H) | (simp only [hji13] at H ⊢;exact H)
         have hji13_ : (IntKind.i64.wrap ((Go.bits .and .i64 (wrap64 (rd l0 (ji8))) 127) * 2 ^ min (ji11).toNat 64)) = ji13:=hji13
         have hji13z : (ji11) ≤ 64 → (IntKind.i64.wrap ((Go.bits .and .i64 (wrap64 (rd l0 (ji8))) 127) * 2 ^ (ji11).toNat)) = ji13:=shl_small hji13
         have hji13y : (wrap64 ((Go.bits .and .i64 (wrap64 (rd l0 (ji8))) 127) * 2 ^ min (ji11).toNat 64)) = ji13:=(i64_w _).symm.trans hji13_
         have hji13x : (ji11) ≤ 64 → (wrap64 ((Go.bits .and .i64 (wrap64 (rd l0 (ji8))) 127) * 2 ^ (ji11).toNat)) = ji13:=fun h_=>(i64_w _).symm.trans (hji13z h_)
         by_cases c14 : (wrap64 (rd l0 (ji8))) > 127
         ·rw [if_pos c14] at H
          have c14b0 : decide (127 < (wrap64 (rd l0 (ji8)))) = true:=decide_eq_true c14
          clear c14
          have H':=aM_ H
          clear H
          have p207 : 0 ≤ ((ji8) : Int):=oT_ (by first | (with_reducible assumption) | assumption)
          have q207 : (ji8) < (l0.length : Int):=oT_ (by first | (with_reducible assumption) | assumption)
          obtain ⟨ad207,e207,hx207_0⟩:=Kd.at_int HR0.out (ji8) p207 q207
          cases e207
          replace p207:=eq_true p207
          replace q207:=eq_true q207
          go_wp2
          go_roundg kj2
          case measure=>have:=HK1.out;have:=HJ2.out;omega
          case rel=>exact ⟨(Go.bits .or .i64 x7_1 (ji13)),(wrap64 (x8_1 + 1)),(by first | rfl | (simp;done) | (simp only [← hji13] <;> (first | rfl | simp)) | (simp [*];done)),(by first | rfl | (simp;done) | (simp [*];done)),H', ⟨by have:=HK1.out;have:=HJ2.out;omega⟩,by repeat (first | exact Drawn0.refl _ | apply Drawn0.step)⟩
         ·rw [if_neg c14] at H
          have c14b0 : decide (127 < (wrap64 (rd l0 (ji8)))) = false:=decide_eq_false c14
          clear c14
          by_cases c15 : x8_1 > 0
          ·rw [if_pos c15] at H
           have c15b0 : decide (0 < x8_1) = true:=decide_eq_true c15
           clear c15
           by_cases c16 : (wrap64 (rd l0 (ji8))) = 0
           ·rw [if_pos c16] at H
            have c16b0 : ((wrap64 (rd l0 (ji8))) == 0) = true:=beq_iff_eq.mpr c16
            have c16b1 : ((wrap64 (rd l0 (ji8))) != 0) = false:=bne_eq_false_iff_eq.mpr c16
            clear c16
            simp only [Option.some.injEq,Prod.mk.injEq] at H
            obtain ⟨rfl,rfl,rfl⟩:=H
            have p207 : 0 ≤ ((ji8) : Int):=oT_ (by first | (with_reducible assumption) | assumption)
            have q207 : (ji8) < (l0.length : Int):=oT_ (by first | (with_reducible assumption) | assumption)
            obtain ⟨ad207,e207,hx207_0⟩:=Kd.at_int HR0.out (ji8) p207 q207
            cases e207
            replace p207:=eq_true p207
            replace q207:=eq_true q207
            go_wp2
            go_ret3
            exact ⟨by first | rfl | (simp;done) | (simp only [← hji8,← hji11,← hji13] <;> (first | rfl | simp)) | (simp [*];done),by repeat (first | exact Drawn0.refl _ | apply Drawn0.step)⟩
           ·rw [if_neg c16] at H
            have c16b0 : ((wrap64 (rd l0 (ji8))) == 0) = false:=beq_eq_false_iff_ne.mpr c16
            have c16b1 : ((wrap64 (rd l0 (ji8))) != 0) = true:=bne_iff_ne.mpr c16
            by_cases c17 : (Go.bits .or .i64 x7_1 (ji13)) > 1000000
            ·rw [if_pos c17] at H
             have c17b0 : decide (1000000 < (Go.bits .or .i64 x7_1 (ji13))) = true:=decide_eq_true c17
             clear c17
             simp only [Option.some.injEq,Prod.mk.injEq] at H
             obtain ⟨rfl,rfl,rfl⟩:=H
             have p207 : 0 ≤ ((ji8) : Int):=oT_ (by first | (with_reducible assumption) | assumption)
             have q207 : (ji8) < (l0.length : Int):=oT_ (by first | (with_reducible assumption) | assumption)
             obtain ⟨ad207,e207,hx207_0⟩:=Kd.at_int HR0.out (ji8) p207 q207
             cases e207
             replace p207:=eq_true p207
             replace q207:=eq_true q207
             go_wp2
             go_ret3
             exact ⟨by first | rfl | (simp;done) | (simp only [← hji8,← hji11,← hji13] <;> (first | rfl | simp)) | (simp [*];done),by repeat (first | exact Drawn0.refl _ | apply Drawn0.step)⟩
            ·rw [if_neg c17] at H
             have c17b0 : decide (1000000 < (Go.bits .or .i64 x7_1 (ji13))) = false:=decide_eq_false c17
             clear c17
             simp only [Option.some.injEq,Prod.mk.injEq] at H
             obtain ⟨rfl,rfl,rfl⟩:=H
             have p207 : 0 ≤ ((ji8) : Int):=oT_ (by first | (with_reducible assumption) | assumption)
             have q207 : (ji8) < (l0.length : Int):=oT_ (by first | (with_reducible assumption) | assumption)
             obtain ⟨ad207,e207,hx207_0⟩:=Kd.at_int HR0.out (ji8) p207 q207
             cases e207
             replace p207:=eq_true p207
             replace q207:=eq_true q207
             go_wp2
             go_ret3
             exact ⟨by first | rfl | (simp;done) | (simp only [← hji8,← hji11,← hji13] <;> (first | rfl | simp)) | (simp [*];done),by repeat (first | exact Drawn0.refl _ | apply Drawn0.step)⟩
          ·rw [if_neg c15] at H
           have c15b0 : decide (0 < x8_1) = false:=decide_eq_false c15
           clear c15
           by_cases c18 : (Go.bits .or .i64 x7_1 (ji13)) > 1000000
           ·rw [if_pos c18] at H
            have c18b0 : decide (1000000 < (Go.bits .or .i64 x7_1 (ji13))) = true:=decide_eq_true c18
            clear c18
            simp only [Option.some.injEq,Prod.mk.injEq] at H
            obtain ⟨rfl,rfl,rfl⟩:=H
            have p207 : 0 ≤ ((ji8) : Int):=oT_ (by first | (with_reducible assumption) | assumption)
            have q207 : (ji8) < (l0.length : Int):=oT_ (by first | (with_reducible assumption) | assumption)
            obtain ⟨ad207,e207,hx207_0⟩:=Kd.at_int HR0.out (ji8) p207 q207
            cases e207
            replace p207:=eq_true p207
            replace q207:=eq_true q207
            go_wp2
            go_ret3
            exact ⟨by first | rfl | (simp;done) | (simp only [← hji8,← hji11,← hji13] <;> (first | rfl | simp)) | (simp [*];done),by repeat (first | exact Drawn0.refl _ | apply Drawn0.step)⟩
           ·rw [if_neg c18] at H
            have c18b0 : decide (1000000 < (Go.bits .or .i64 x7_1 (ji13))) = false:=decide_eq_false c18
            clear c18
            simp only [Option.some.injEq,Prod.mk.injEq] at H
            obtain ⟨rfl,rfl,rfl⟩:=H
            have p207 : 0 ≤ ((ji8) : Int):=oT_ (by first | (with_reducible assumption) | assumption)
            have q207 : (ji8) < (l0.length : Int):=oT_ (by first | (with_reducible assumption) | assumption)
            obtain ⟨ad207,e207,hx207_0⟩:=Kd.at_int HR0.out (ji8) p207 q207
            cases e207
            replace p207:=eq_true p207
            replace q207:=eq_true q207
            go_wp2
            go_ret3
            exact ⟨by first | rfl | (simp;done) | (simp only [← hji8,← hji11,← hji13] <;> (first | rfl | simp)) | (simp [*];done),by repeat (first | exact Drawn0.refl _ | apply Drawn0.step)⟩
        ·rw [if_neg c12] at H
         exact absurd H (by simp)
       ·rw [if_neg c10] at H
        exact absurd H (by simp)
      ·rw [if_neg c9] at H
       exact absurd H (by simp)
     ·replace c7:=Bool.eq_false_iff.mpr c7
      subst c7
      have H1 : (some (0,0,false)) = some (r1,r2,r3):=by rw [if_neg (show ¬ (false = true) by decide)] at H;exact H
      clear H
      have H:=H1
      clear H1
      simp only [Option.some.injEq,Prod.mk.injEq] at H
      obtain ⟨rfl,rfl,rfl⟩:=H
      go_wp2
      go_ret3
      exact ⟨by first | rfl | (simp;done) | (simp [*];done),by repeat (first | exact Drawn0.refl _ | apply Drawn0.step)⟩
def J98 (w0 W : World) (g : Nat) (f0 : List Int) (f1 : Int) (f2 : Bool) : Prop:=∃ A0 c0,W.heap[g]? = some (.cells #[.slice A0 f0.length c0,.int .i64 f1,.bool f2] 98 (0,0)) ∧ w0.heap.size ≤ g ∧ Kd.C (Kd.int .u8) w0 A0 f0.length f0 ∧ f0.length ≤ c0
theorem J98.grown {w0 W : World}{g : Nat}{f0 : List Int}{f1 : Int}{f2 : Bool}{W1 : World}{row : Option Nat} (h : J98 w0 W g f0 f1 f2) (hw : W.grownBy W1 row) (hne : some g ≠ row) : J98 w0 W1 g f0 f1 f2:=by
 obtain ⟨A0,c0,hb,hg,hr0,hl0⟩:=h
 exact ⟨A0,c0,blk_grown hb hw hne,hg,hr0,hl0⟩
theorem J98.kept {w0 W : World}{g : Nat}{f0 : List Int}{f1 : Int}{f2 : Bool}{W1 : World}{S : Nat → Prop} (h : J98 w0 W g f0 f1 f2) (hk : Kept W W1 S) (hne : ¬ S g) : J98 w0 W1 g f0 f1 f2:=by
 obtain ⟨A0,c0,hb,hg,hr0,hl0⟩:=h
 exact ⟨A0,c0,blk_kept hb hk hne,hg,hr0,hl0⟩
theorem J98.below {w0 W : World}{g : Nat}{f0 : List Int}{f1 : Int}{f2 : Bool}{W1 : World} (h : J98 w0 W g f0 f1 f2) (hw : Below W.heap.size W W1) : J98 w0 W1 g f0 f1 f2:=h.grown (grown_of_below hw none) (by simp)
theorem J98.alloc {w0 W : World}{g : Nat}{f0 : List Int}{f1 : Int}{f2 : Bool} (h : J98 w0 W g f0 f1 f2) (o : Obj) : J98 w0 (W.alloc o) g f0 f1 f2:=h.below (bA_ (Below.refl _ _) o)
theorem J98.drewN {w0 W : World}{g : Nat}{f0 : List Int}{f1 : Int}{f2 : Bool} (h : J98 w0 W g f0 f1 f2) (m : Nat) : J98 w0 (W.drewN m) g f0 f1 f2:=h
theorem J98.drew {w0 W : World}{g : Nat}{f0 : List Int}{f1 : Int}{f2 : Bool} (h : J98 w0 W g f0 f1 f2) : J98 w0 W.drew g f0 f1 f2:=h
theorem J98.at_ {w0 W : World}{g : Nat}{f0 : List Int}{f1 : Int}{f2 : Bool}{w' : World}{m : Nat} (hq : W.drewN m = w') (h : J98 w0 W g f0 f1 f2) : J98 w0 w' g f0 f1 f2:=by subst hq;exact J98.drewN h m
theorem J98.apart {w0 W : World}{g : Nat}{f0 : List Int}{f1 : Int}{f2 : Bool}{α : Type}{d : Kd α}{e : Nat}{base : Nat}{ok : Nat → Prop}{v : Value}{xs : List α} (h : J98 w0 W g f0 f1 f2) (ho : d.R e W base ok v xs) (ht : ∀ q,q ∈ e :: d.E → q ≠ 98) : d.R e W base (fun k=>ok k ∧ k ≠ g) v xs:=by
 obtain ⟨A0,c0,hb,hg,hr0,hl0⟩:=h
 exact Kd.R_types ho hb ht
theorem J98.own_ne {w0 W : World}{g : Nat}{f0 : List Int}{f1 : Int}{f2 : Bool}{α : Type}{d : Kd α}{e : Nat}{base : Nat}{ok : Nat → Prop}{v : Value}{xs : List α} (h : J98 w0 W g f0 f1 f2) (ho : d.R e W base ok v xs) (ht : e ≠ 98) : some g ≠ v.ownBlock:=by
 obtain ⟨A0,c0,hb,hg,hr0,hl0⟩:=h
 exact Kd.R_ne ho hb ht
theorem J98.lt {w0 W : World}{g : Nat}{f0 : List Int}{f1 : Int}{f2 : Bool} (h : J98 w0 W g f0 f1 f2) : g < W.heap.size:=by
 obtain ⟨A0,c0,hb,hg,hr0,hl0⟩:=h
 exact blk_lt hb
theorem J98.ge {w0 W : World}{g : Nat}{f0 : List Int}{f1 : Int}{f2 : Bool} (h : J98 w0 W g f0 f1 f2) : w0.heap.size ≤ g:=by
 obtain ⟨A0,c0,hb,hg,hr0,hl0⟩:=h
 exact hg
theorem J98.ne_blk {w0 W : World}{g : Nat}{f0 : List Int}{f1 : Int}{f2 : Bool}{a : Nat}{cs : Array Value}{t : TypeId}{fr : Nat × Nat} (h : J98 w0 W g f0 f1 f2) (hb2 : W.heap[a]? = some (.cells cs t fr)) (ht : t ≠ 98) : g ≠ a:=by
 obtain ⟨A0,c0,hb,hg,hr0,hl0⟩:=h
 rintro rfl
 rw [hb] at hb2
 injection hb2 with hb2
 injection hb2 with _ ht2
 exact ht ht2.symm
theorem J98.far {w0 W : World}{g : Nat}{f0 : List Int}{f1 : Int}{f2 : Bool}{p : Addr} (h : J98 w0 W g f0 f1 f2) (hne : g ≠ p.block) (u : Value) : J98 w0 (W.setCell p u) g f0 f1 f2:=by
 obtain ⟨A0,c0,hb,hg,hr0,hl0⟩:=h
 exact ⟨A0,c0,blk_far hb hne u,hg,hr0,hl0⟩
theorem J98.z {w0 W : World}{g : Nat}{f0 : List Int}{f1 : Int}{f2 : Bool}  {X_ : World} (h : Aside0 (J98 w0 W g f0 f1 f2)) [s : Fst g W X_] : J98 w0 X_ g f0 f1 f2:=by
  obtain ⟨a0_,a1_,hb_,r_⟩:=h.out
  exact ⟨a0_,a1_,s.out _ _ hb_,r_⟩
theorem J98.y {w0 W : World}{g : Nat}{f0 : List Int}{f1 : Int}{f2 : Bool}  {X_ : World} (h : J98 w0 W g f0 f1 f2) [s : Fs1 g X_ W] : J98 w0 X_ g f0 f1 f2:=by
  obtain ⟨a0_,a1_,hb_,r_⟩:=h
  exact ⟨a0_,a1_,s.out _ _ hb_,r_⟩
theorem cellS98_0 {W : World}{g : Nat}{A0 : Option Addr}{c0 : Nat}{f0 : List Int}{f1 : Int}{f2 : Bool} (h : W.heap[g]? = some (.cells #[.slice A0 f0.length c0,.int .i64 f1,.bool f2] 98 (0,0))) : W.cell? ⟨g,0,none⟩ = some (.slice A0 f0.length c0):=(kC_ h 0).trans rfl
theorem cellS98_1 {W : World}{g : Nat}{A0 : Option Addr}{c0 : Nat}{f0 : List Int}{f1 : Int}{f2 : Bool} (h : W.heap[g]? = some (.cells #[.slice A0 f0.length c0,.int .i64 f1,.bool f2] 98 (0,0))) : W.cell? ⟨g,1,none⟩ = some (.int .i64 f1):=(kC_ h 1).trans rfl
theorem J98.set_1 {w0 W : World}{g : Nat}{f0 : List Int}{f1 : Int}{f2 : Bool} (h : J98 w0 W g f0 f1 f2) (x : Int) : J98 w0 (W.setCell ⟨g,1,none⟩ (.int .i64 x)) g f0 x f2:=by
 obtain ⟨A0,c0,hb,hg,hr0,hl0⟩:=h
 exact ⟨A0,c0,by simpa using blk_set hb 1 (.int .i64 x),hg,hr0,hl0⟩
theorem cellS98_2 {W : World}{g : Nat}{A0 : Option Addr}{c0 : Nat}{f0 : List Int}{f1 : Int}{f2 : Bool} (h : W.heap[g]? = some (.cells #[.slice A0 f0.length c0,.int .i64 f1,.bool f2] 98 (0,0))) : W.cell? ⟨g,2,none⟩ = some (.bool f2):=(kC_ h 2).trans rfl
theorem J98.set_2 {w0 W : World}{g : Nat}{f0 : List Int}{f1 : Int}{f2 : Bool} (h : J98 w0 W g f0 f1 f2) (x : Bool) : J98 w0 (W.setCell ⟨g,2,none⟩ (.bool x)) g f0 f1 x:=by
 obtain ⟨A0,c0,hb,hg,hr0,hl0⟩:=h
 exact ⟨A0,c0,by simpa using blk_set hb 2 (.bool x),hg,hr0,hl0⟩
def spec_l14Num.f (k : Nat) (s0_0 : List Int) (s0_1 : Int) (s0_2 : Bool) : Option (Int × Int × Bool):=(spec_GetU.f k s0_0 s0_1).bind fun bt208=>(if s0_2 = true then (some (0,s0_1,true)) else (if bt208.2.2 = true then (some (bt208.1,bt208.2.1,s0_2)) else (some (0,s0_1,true))))
theorem spec_l14Num.mono : ∀ a0 a1 a2 k,LeO (spec_l14Num.f k a0 a1 a2) (spec_l14Num.f (k + 1) a0 a1 a2):=by
 intro a0 a1 a2 k
 unfold spec_l14Num.f
 repeat' first
   | (with_reducible exact spec_GetU.mono _ _ _)
   | (with_reducible exact LeO.refl _)
   | (with_reducible exact LeO.none _)
   | (with_reducible refine LeO.ite ?_ ?_)
   | (with_reducible refine LeO.bind ?_ (fun _=>?_))
   | exact spec_GetU.mono _ _ _
   | exact LeO.none _
   | refine LeO.ite ?_ ?_
   | refine LeO.bind ?_ (fun _=>?_)
set_option maxHeartbeats 8000000 in
set_option maxRecDepth 100000 in
theorem spec_l14Num.calls (k : Nat) (g : Nat) (s0_0 : List Int) (s0_1 : Int) (s0_2 : Bool) (r1 : Int) (r2 : Int) (r3 : Bool) (w0 w : World) (hI : J98 w0 w g s0_0 s0_1 s0_2) (hB : Below w0.heap.size w0 w) (h : spec_l14Num.f k s0_0 s0_1 s0_2 = some (r1,r2,r3)) :
  Calls Try.prog 76 #[.pointer (some ⟨g,0,none⟩)] w fun e w'=>e = .returned (.int .i64 r1) ∧ J98 w0 w' g s0_0 r2 r3 ∧ Below w0.heap.size w0 w' ∧ KeepBut w w' g none:=by
 have HI0:=aM_ hI
 have HK:=aM_ (KeepBut.refl w g none)
 have HL:=aM_ hB.size
 clear hI
 have HW0:=aM_ hB.size
 have HB:=aM_ hB
 clear hB
 have H : ((spec_GetU.f k s0_0 s0_1).bind fun bt208=>(if s0_2 = true then (some (0,s0_1,true)) else (if bt208.2.2 = true then (some (bt208.1,bt208.2.1,s0_2)) else (some (0,s0_1,true))))) = some (r1,r2,r3):=h
 clear h
 replace H:=oB_ H
 obtain ⟨⟨t208,t209,t210⟩,A20,H⟩:=H
 replace H : (if s0_2 = true then (some (0,s0_1,true)) else (if t210 = true then (some (t208,t209,s0_2)) else (some (0,s0_1,true)))) = some (r1,r2,r3):=H
 have A2:=aM_ A20
 clear A20
 by_cases c3 : s0_2 = true
 ·subst c3
  have H1 : (some (0,s0_1,true)) = some (r1,r2,r3):=by rw [if_pos rfl] at H;exact H
  clear H
  have H:=H1
  clear H1
  simp only [Option.some.injEq,Prod.mk.injEq] at H
  obtain ⟨rfl,rfl,rfl⟩:=H
  obtain ⟨ASz4_0,cSz4_0,HGz4,hgz4,HSz4_0,HLnz4_0⟩:=HI0.out
  have hcz4_0:=cellS98_0 HGz4
  have hcz4_1:=cellS98_1 HGz4
  have hcz4_2:=cellS98_2 HGz4
  have hfz4_1:=kF_ HGz4 1
  have hfz4_2:=kF_ HGz4 2
  clear HGz4 hgz4
  go_enter Try.func76,Try.ntmps76
  go_wp2_with (first | (go_at_call 117;(with_reducible refine (spec_GetU.calls k _ _ s0_0 s0_1 t208 t209 t210 _ ?side1 ?side2 A2.out).mono ?_);(case side1=>exact Kd.C_below HSz4_0 (by have e0_:=aM_ (J98.ge HI0.out);exact bZ_ HB));(case side2=>exact HLnz4_0);rintro e w' ⟨rfl,⟨nd,rfl⟩⟩;(try first | exact ⟨rfl,_,World.drewN_drewN _ _ _⟩ | exact ⟨rfl,_,Eq.trans (World.drewN_drewN _ _ _) (congrArg (World.drewN _) (Nat.add_assoc _ _ _))⟩)))
  repeat (go_quiet (first | (go_at_call 117;(with_reducible refine (spec_GetU.calls k _ _ s0_0 s0_1 t208 t209 t210 _ ?side1 ?side2 A2.out).mono ?_);(case side1=>exact Kd.C_below HSz4_0 (by have e0_:=aM_ (J98.ge HI0.out);exact bZ_ HB));(case side2=>exact HLnz4_0);rintro e w' ⟨rfl,⟨nd,rfl⟩⟩;(try first | exact ⟨rfl,_,World.drewN_drewN _ _ _⟩ | exact ⟨rfl,_,Eq.trans (World.drewN_drewN _ _ _) (congrArg (World.drewN _) (Nat.add_assoc _ _ _))⟩)));try go_wp2_with (first | (go_at_call 117;(with_reducible refine (spec_GetU.calls k _ _ s0_0 s0_1 t208 t209 t210 _ ?side1 ?side2 A2.out).mono ?_);(case side1=>exact Kd.C_below HSz4_0 (by have e0_:=aM_ (J98.ge HI0.out);exact bZ_ HB));(case side2=>exact HLnz4_0);rintro e w' ⟨rfl,⟨nd,rfl⟩⟩;(try first | exact ⟨rfl,_,World.drewN_drewN _ _ _⟩ | exact ⟨rfl,_,Eq.trans (World.drewN_drewN _ _ _) (congrArg (World.drewN _) (Nat.add_assoc _ _ _))⟩))))
  go_ret
  exact ⟨by first | rfl | (simp [errW_none,errW_some] <;> rfl) | (simp [*, errW_none,errW_some] <;> rfl),by repeat first | exact J98.z HI0 | apply J98.set_1 | apply J98.set_2 | refine J98.y ?_,by have e0_:=aM_ (J98.ge HI0.out);exact bZ_ HB,by exact eZ_ HK⟩
 ·replace c3:=Bool.eq_false_iff.mpr c3
  subst c3
  have H1 : (if t210 = true then (some (t208,t209,false)) else (some (0,s0_1,true))) = some (r1,r2,r3):=by rw [if_neg (show ¬ (false = true) by decide)] at H;exact H
  clear H
  have H:=H1
  clear H1
  by_cases c5 : t210 = true
  ·subst c5
   have H1 : (some (t208,t209,false)) = some (r1,r2,r3):=by rw [if_pos rfl] at H;exact H
   clear H
   have H:=H1
   clear H1
   simp only [Option.some.injEq,Prod.mk.injEq] at H
   obtain ⟨rfl,rfl,rfl⟩:=H
   obtain ⟨ASz6_0,cSz6_0,HGz6,hgz6,HSz6_0,HLnz6_0⟩:=HI0.out
   have hcz6_0:=cellS98_0 HGz6
   have hcz6_1:=cellS98_1 HGz6
   have hcz6_2:=cellS98_2 HGz6
   have hfz6_1:=kF_ HGz6 1
   have hfz6_2:=kF_ HGz6 2
   clear HGz6 hgz6
   go_enter Try.func76,Try.ntmps76
   go_wp2_with (first | (go_at_call 117;(with_reducible refine (spec_GetU.calls k _ _ s0_0 s0_1 t208 t209 true _ ?side1 ?side2 A2.out).mono ?_);(case side1=>exact Kd.C_below HSz6_0 (by have e0_:=aM_ (J98.ge HI0.out);exact bZ_ HB));(case side2=>exact HLnz6_0);rintro e w' ⟨rfl,⟨nd,rfl⟩⟩;(try first | exact ⟨rfl,_,World.drewN_drewN _ _ _⟩ | exact ⟨rfl,_,Eq.trans (World.drewN_drewN _ _ _) (congrArg (World.drewN _) (Nat.add_assoc _ _ _))⟩)))
   repeat (go_quiet (first | (go_at_call 117;(with_reducible refine (spec_GetU.calls k _ _ s0_0 s0_1 t208 t209 true _ ?side1 ?side2 A2.out).mono ?_);(case side1=>exact Kd.C_below HSz6_0 (by have e0_:=aM_ (J98.ge HI0.out);exact bZ_ HB));(case side2=>exact HLnz6_0);rintro e w' ⟨rfl,⟨nd,rfl⟩⟩;(try first | exact ⟨rfl,_,World.drewN_drewN _ _ _⟩ | exact ⟨rfl,_,Eq.trans (World.drewN_drewN _ _ _) (congrArg (World.drewN _) (Nat.add_assoc _ _ _))⟩)));try go_wp2_with (first | (go_at_call 117;(with_reducible refine (spec_GetU.calls k _ _ s0_0 s0_1 t208 t209 true _ ?side1 ?side2 A2.out).mono ?_);(case side1=>exact Kd.C_below HSz6_0 (by have e0_:=aM_ (J98.ge HI0.out);exact bZ_ HB));(case side2=>exact HLnz6_0);rintro e w' ⟨rfl,⟨nd,rfl⟩⟩;(try first | exact ⟨rfl,_,World.drewN_drewN _ _ _⟩ | exact ⟨rfl,_,Eq.trans (World.drewN_drewN _ _ _) (congrArg (World.drewN _) (Nat.add_assoc _ _ _))⟩))))
   go_ret
   exact ⟨by first | rfl | (simp [errW_none,errW_some] <;> rfl) | (simp [*, errW_none,errW_some] <;> rfl),by repeat first | exact J98.z HI0 | apply J98.set_1 | apply J98.set_2 | refine J98.y ?_,by have e0_:=aM_ (J98.ge HI0.out);exact bZ_ HB,by exact eZ_ HK⟩
  ·replace c5:=Bool.eq_false_iff.mpr c5
   subst c5
   have H1 : (some (0,s0_1,true)) = some (r1,r2,r3):=by rw [if_neg (show ¬ (false = true) by decide)] at H;exact H
   clear H
   have H:=H1
   clear H1
   simp only [Option.some.injEq,Prod.mk.injEq] at H
   obtain ⟨rfl,rfl,rfl⟩:=H
   obtain ⟨ASz7_0,cSz7_0,HGz7,hgz7,HSz7_0,HLnz7_0⟩:=HI0.out
   have hcz7_0:=cellS98_0 HGz7
   have hcz7_1:=cellS98_1 HGz7
   have hcz7_2:=cellS98_2 HGz7
   have hfz7_1:=kF_ HGz7 1
   have hfz7_2:=kF_ HGz7 2
   clear HGz7 hgz7
   go_enter Try.func76,Try.ntmps76
   go_wp2_with (first | (go_at_call 117;(with_reducible refine (spec_GetU.calls k _ _ s0_0 s0_1 t208 t209 false _ ?side1 ?side2 A2.out).mono ?_);(case side1=>exact Kd.C_below HSz7_0 (by have e0_:=aM_ (J98.ge HI0.out);exact bZ_ HB));(case side2=>exact HLnz7_0);rintro e w' ⟨rfl,⟨nd,rfl⟩⟩;(try first | exact ⟨rfl,_,World.drewN_drewN _ _ _⟩ | exact ⟨rfl,_,Eq.trans (World.drewN_drewN _ _ _) (congrArg (World.drewN _) (Nat.add_assoc _ _ _))⟩)))
   repeat (go_quiet (first | (go_at_call 117;(with_reducible refine (spec_GetU.calls k _ _ s0_0 s0_1 t208 t209 false _ ?side1 ?side2 A2.out).mono ?_);(case side1=>exact Kd.C_below HSz7_0 (by have e0_:=aM_ (J98.ge HI0.out);exact bZ_ HB));(case side2=>exact HLnz7_0);rintro e w' ⟨rfl,⟨nd,rfl⟩⟩;(try first | exact ⟨rfl,_,World.drewN_drewN _ _ _⟩ | exact ⟨rfl,_,Eq.trans (World.drewN_drewN _ _ _) (congrArg (World.drewN _) (Nat.add_assoc _ _ _))⟩)));try go_wp2_with (first | (go_at_call 117;(with_reducible refine (spec_GetU.calls k _ _ s0_0 s0_1 t208 t209 false _ ?side1 ?side2 A2.out).mono ?_);(case side1=>exact Kd.C_below HSz7_0 (by have e0_:=aM_ (J98.ge HI0.out);exact bZ_ HB));(case side2=>exact HLnz7_0);rintro e w' ⟨rfl,⟨nd,rfl⟩⟩;(try first | exact ⟨rfl,_,World.drewN_drewN _ _ _⟩ | exact ⟨rfl,_,Eq.trans (World.drewN_drewN _ _ _) (congrArg (World.drewN _) (Nat.add_assoc _ _ _))⟩))))
   go_ret
   exact ⟨by first | rfl | (simp [errW_none,errW_some] <;> rfl) | (simp [*, errW_none,errW_some] <;> rfl),by repeat first | exact J98.z HI0 | apply J98.set_1 | apply J98.set_2 | refine J98.y ?_,by have e0_:=aM_ (J98.ge HI0.out);exact bZ_ HB,by exact eZ_ HK⟩
def spec_GetText.f (k : Nat) (l0 : List Int) (a1 : Int) : Option (ByteArray × Int × Bool):=(spec_GetU.f k l0 a1).bind fun bt211=>(if bt211.2.2 = true then (if bt211.1 > (wrap64 ((l0.length : Int) - bt211.2.1)) then (some ((⟨#[]⟩ : ByteArray),0,false)) else (if 0 ≤ bt211.2.1 then (if bt211.2.1 ≤ (wrap64 (bt211.2.1 + bt211.1)) then (if (wrap64 (bt211.2.1 + bt211.1)) ≤ (l0.length : Int) then (some (strOfNums ((l0.take ((wrap64 (bt211.2.1 + bt211.1)) : Int).toNat).drop (bt211.2.1 : Int).toNat),wrap64 (bt211.2.1 + bt211.1),true)) else (none)) else (none)) else (none))) else (some ((⟨#[]⟩ : ByteArray),0,false)))
theorem spec_GetText.mono : ∀ a0 a1 k,LeO (spec_GetText.f k a0 a1) (spec_GetText.f (k + 1) a0 a1):=by
 intro a0 a1 k
 unfold spec_GetText.f
 repeat' first
   | (with_reducible exact spec_GetU.mono _ _ _)
   | (with_reducible exact LeO.refl _)
   | (with_reducible exact LeO.none _)
   | (with_reducible refine LeO.ite ?_ ?_)
   | (with_reducible refine LeO.bind ?_ (fun _=>?_))
   | exact spec_GetU.mono _ _ _
   | exact LeO.none _
   | refine LeO.ite ?_ ?_
   | refine LeO.bind ?_ (fun _=>?_)
set_option maxHeartbeats 8000000 in
set_option maxRecDepth 100000 in
theorem spec_GetText.calls (k : Nat) (A0 : Option Addr) (c0 : Nat) (l0 : List Int) (a1 : Int) (r1 : ByteArray) (r2 : Int) (r3 : Bool) (w : World) (hr0 : Kd.C (Kd.int .u8) w A0 l0.length l0) (hc0 : l0.length ≤ c0) (h : spec_GetText.f k l0 a1 = some (r1,r2,r3)) :
  Calls Try.prog 144 #[.slice A0 l0.length c0,.int .i64 a1] w fun e w'=>e = .returned (.tuple #[.string r1,.int .i64 r2,.bool r3]) ∧ Drawn0 w w':=by
 have HR0:=aM_ hr0
 have HC0:=aM_ hc0
 clear hr0 hc0
 have H : ((spec_GetU.f k l0 a1).bind fun bt211=>(if bt211.2.2 = true then (if bt211.1 > (wrap64 ((l0.length : Int) - bt211.2.1)) then (some ((⟨#[]⟩ : ByteArray),0,false)) else (if 0 ≤ bt211.2.1 then (if bt211.2.1 ≤ (wrap64 (bt211.2.1 + bt211.1)) then (if (wrap64 (bt211.2.1 + bt211.1)) ≤ (l0.length : Int) then (some (strOfNums ((l0.take ((wrap64 (bt211.2.1 + bt211.1)) : Int).toNat).drop (bt211.2.1 : Int).toNat),wrap64 (bt211.2.1 + bt211.1),true)) else (none)) else (none)) else (none))) else (some ((⟨#[]⟩ : ByteArray),0,false)))) = some (r1,r2,r3):=h
 clear h
 replace H:=oB_ H
 obtain ⟨⟨t211,t212,t213⟩,A30,H⟩:=H
 replace H : (if t213 = true then (if t211 > (wrap64 ((l0.length : Int) - t212)) then (some ((⟨#[]⟩ : ByteArray),0,false)) else (if 0 ≤ t212 then (if t212 ≤ (wrap64 (t212 + t211)) then (if (wrap64 (t212 + t211)) ≤ (l0.length : Int) then (some (strOfNums ((l0.take ((wrap64 (t212 + t211)) : Int).toNat).drop (t212 : Int).toNat),wrap64 (t212 + t211),true)) else (none)) else (none)) else (none))) else (some ((⟨#[]⟩ : ByteArray),0,false))) = some (r1,r2,r3):=H
 have A3:=aM_ A30
 clear A30
 by_cases c4 : t213 = true
 ·subst c4
  have H1 : (if t211 > (wrap64 ((l0.length : Int) - t212)) then (some ((⟨#[]⟩ : ByteArray),0,false)) else (if 0 ≤ t212 then (if t212 ≤ (wrap64 (t212 + t211)) then (if (wrap64 (t212 + t211)) ≤ (l0.length : Int) then (some (strOfNums ((l0.take ((wrap64 (t212 + t211)) : Int).toNat).drop (t212 : Int).toNat),wrap64 (t212 + t211),true)) else (none)) else (none)) else (none))) = some (r1,r2,r3):=by rw [if_pos rfl] at H;exact H
  clear H
  have H:=H1
  clear H1
  by_cases c5 : t211 > (wrap64 ((l0.length : Int) - t212))
  ·rw [if_pos c5] at H
   have c5b0 : decide ((wrap64 ((l0.length : Int) - t212)) < t211) = true:=decide_eq_true c5
   clear c5
   simp only [Option.some.injEq,Prod.mk.injEq] at H
   obtain ⟨rfl,rfl,rfl⟩:=H
   go_enter Try.func144,Try.ntmps144
   go_wp2_with (first | ((with_reducible refine gate_callee (f:=117) rfl ?_);refine goesL_ (some 13) rfl rfl Try.func117 (by kernel_rfl) rfl #[.slice A0 l0.length c0,.int .i64 a1] rfl (by (try simp only [mA_,mC_,mN_]);first | done | rfl | (simp only [lD_,lT_];rfl)) ?_;(with_reducible refine (spec_GetU.calls k _ _ l0 a1 t211 t212 true _ ?side1 ?side2 A3.out).mono ?_);(case side1=>repeat (first | exact HR0.out | (with_reducible refine cA_ ?_ _) | (with_reducible refine cN_ ?_ _) | (with_reducible refine cD_ ?_)));(case side2=>exact HC0.out);rintro e w' ⟨rfl,⟨nd,rfl⟩⟩;refine ⟨_,rfl,?_⟩))
   go_ret3
   exact ⟨by first | rfl | (simp;done) | (simp [*];done),by repeat (first | exact Drawn0.refl _ | apply Drawn0.step)⟩
  ·rw [if_neg c5] at H
   have c5b0 : decide ((wrap64 ((l0.length : Int) - t212)) < t211) = false:=decide_eq_false c5
   clear c5
   by_cases c6 : 0 ≤ t212
   ·rw [if_pos c6] at H
    have c6b0:=eq_true c6
    have c6b1 : decide (0 ≤ t212) = true:=decide_eq_true c6
    clear c6
    by_cases c7 : t212 ≤ (wrap64 (t212 + t211))
    ·rw [if_pos c7] at H
     have c7b0:=eq_true c7
     have c7b1 : decide (t212 ≤ (wrap64 (t212 + t211))) = true:=decide_eq_true c7
     by_cases c8 : (wrap64 (t212 + t211)) ≤ (l0.length : Int)
     ·rw [if_pos c8] at H
      have c8b0:=eq_true c8
      have c8b1 : decide ((wrap64 (t212 + t211)) ≤ (l0.length : Int)) = true:=decide_eq_true c8
      simp only [Option.some.injEq,Prod.mk.injEq] at H
      obtain ⟨rfl,rfl,rfl⟩:=H
      go_enter Try.func144,Try.ntmps144
      go_wp2_with (first | ((with_reducible refine gate_callee (f:=117) rfl ?_);refine goesL_ (some 13) rfl rfl Try.func117 (by kernel_rfl) rfl #[.slice A0 l0.length c0,.int .i64 a1] rfl (by (try simp only [mA_,mC_,mN_]);first | done | rfl | (simp only [lD_,lT_];rfl)) ?_;(with_reducible refine (spec_GetU.calls k _ _ l0 a1 t211 t212 true _ ?side1 ?side2 A3.out).mono ?_);(case side1=>repeat (first | exact HR0.out | (with_reducible refine cA_ ?_ _) | (with_reducible refine cN_ ?_ _) | (with_reducible refine cD_ ?_)));(case side2=>exact HC0.out);rintro e w' ⟨rfl,⟨nd,rfl⟩⟩;refine ⟨_,rfl,?_⟩;obtain ⟨i09,hi09,_,hsz9,_⟩:=info_parts info5;obtain ⟨A9,hcut9,hA9,hC9⟩:=print_mid_of (P:=Try.prog) (Value.int .u8) 0 27 5 .i64 .i64 Try.underlying27 hi09 hsz9 A0 c0 l0 t212 (wrap64 (t212 + t211)) (oT_ (by first | (with_reducible assumption) | assumption)) (by first | omega | exact oT_ (by first | (with_reducible assumption) | assumption)) (oT_ (by first | (with_reducible assumption) | assumption)) HC0.out;have HR214:=aM_ (Kd.C_of_reads (h1:=fun _=>rfl) (hA9 _ (Kd.reads_of_C HR0.out)));have HC214:=aM_ hC9;clear hA9 hC9 hi09 hsz9;have hcv10:=Kd.C_string (P:=Try.prog) (A:=A9) (c:=(c0 - t212.toNat)) Try.underlying27 Try.underlying5 Try.underlying9 HR214.out;have hcw215:=fun (n_ : Nat)=>Kd.C_string (P:=Try.prog) (A:=A9) (c:=(c0 - t212.toNat)) Try.underlying27 Try.underlying5 Try.underlying9 (cN_ (HR214.out) n_);simp only [lD_,lT_] at hcw215;have hcw215m : min ((wrap64 (t212 + t211)) : Int).toNat l0.length = ((wrap64 (t212 + t211)) : Int).toNat:=Nat.min_eq_left (by omega);have hcw215a:=hcw215;simp only [hcw215m] at hcw215a;clear hcw215m))
      go_ret3
      exact ⟨by first | rfl | (simp;done) | (simp [*];done),by repeat (first | exact Drawn0.refl _ | apply Drawn0.step)⟩
     ·rw [if_neg c8] at H
      exact absurd H (by simp)
    ·rw [if_neg c7] at H
     exact absurd H (by simp)
   ·rw [if_neg c6] at H
    exact absurd H (by simp)
 ·replace c4:=Bool.eq_false_iff.mpr c4
  subst c4
  have H1 : (some ((⟨#[]⟩ : ByteArray),0,false)) = some (r1,r2,r3):=by rw [if_neg (show ¬ (false = true) by decide)] at H;exact H
  clear H
  have H:=H1
  clear H1
  simp only [Option.some.injEq,Prod.mk.injEq] at H
  obtain ⟨rfl,rfl,rfl⟩:=H
  go_enter Try.func144,Try.ntmps144
  go_wp2_with (first | ((with_reducible refine gate_callee (f:=117) rfl ?_);refine goesL_ (some 13) rfl rfl Try.func117 (by kernel_rfl) rfl #[.slice A0 l0.length c0,.int .i64 a1] rfl (by (try simp only [mA_,mC_,mN_]);first | done | rfl | (simp only [lD_,lT_];rfl)) ?_;(with_reducible refine (spec_GetU.calls k _ _ l0 a1 t211 t212 false _ ?side1 ?side2 A3.out).mono ?_);(case side1=>repeat (first | exact HR0.out | (with_reducible refine cA_ ?_ _) | (with_reducible refine cN_ ?_ _) | (with_reducible refine cD_ ?_)));(case side2=>exact HC0.out);rintro e w' ⟨rfl,⟨nd,rfl⟩⟩;refine ⟨_,rfl,?_⟩))
  go_ret3
  exact ⟨by first | rfl | (simp;done) | (simp [*];done),by repeat (first | exact Drawn0.refl _ | apply Drawn0.step)⟩
def spec_l14Text.f (k : Nat) (s0_0 : List Int) (s0_1 : Int) (s0_2 : Bool) : Option (ByteArray × Int × Bool):=(spec_GetText.f k s0_0 s0_1).bind fun bt216=>(if s0_2 = true then (some ((⟨#[]⟩ : ByteArray),s0_1,true)) else (if bt216.2.2 = true then (some (bt216.1,bt216.2.1,s0_2)) else (some ((⟨#[]⟩ : ByteArray),s0_1,true))))
theorem spec_l14Text.mono : ∀ a0 a1 a2 k,LeO (spec_l14Text.f k a0 a1 a2) (spec_l14Text.f (k + 1) a0 a1 a2):=by
 intro a0 a1 a2 k
 unfold spec_l14Text.f
 repeat' first
   | (with_reducible exact spec_GetText.mono _ _ _)
   | (with_reducible exact LeO.refl _)
   | (with_reducible exact LeO.none _)
   | (with_reducible refine LeO.ite ?_ ?_)
   | (with_reducible refine LeO.bind ?_ (fun _=>?_))
   | exact spec_GetText.mono _ _ _
   | exact LeO.none _
   | refine LeO.ite ?_ ?_
   | refine LeO.bind ?_ (fun _=>?_)
set_option maxHeartbeats 8000000 in
set_option maxRecDepth 100000 in
theorem spec_l14Text.calls (k : Nat) (g : Nat) (s0_0 : List Int) (s0_1 : Int) (s0_2 : Bool) (r1 : ByteArray) (r2 : Int) (r3 : Bool) (w0 w : World) (hI : J98 w0 w g s0_0 s0_1 s0_2) (hB : Below w0.heap.size w0 w) (h : spec_l14Text.f k s0_0 s0_1 s0_2 = some (r1,r2,r3)) :
  Calls Try.prog 77 #[.pointer (some ⟨g,0,none⟩)] w fun e w'=>e = .returned (.string r1) ∧ J98 w0 w' g s0_0 r2 r3 ∧ Below w0.heap.size w0 w' ∧ KeepBut w w' g none:=by
 have HI0:=aM_ hI
 have HK:=aM_ (KeepBut.refl w g none)
 have HL:=aM_ hB.size
 clear hI
 have HW0:=aM_ hB.size
 have HB:=aM_ hB
 clear hB
 have H : ((spec_GetText.f k s0_0 s0_1).bind fun bt216=>(if s0_2 = true then (some ((⟨#[]⟩ : ByteArray),s0_1,true)) else (if bt216.2.2 = true then (some (bt216.1,bt216.2.1,s0_2)) else (some ((⟨#[]⟩ : ByteArray),s0_1,true))))) = some (r1,r2,r3):=h
 clear h
 replace H:=oB_ H
 obtain ⟨⟨t216,t217,t218⟩,A20,H⟩:=H
 replace H : (if s0_2 = true then (some ((⟨#[]⟩ : ByteArray),s0_1,true)) else (if t218 = true then (some (t216,t217,s0_2)) else (some ((⟨#[]⟩ : ByteArray),s0_1,true)))) = some (r1,r2,r3):=H
 have A2:=aM_ A20
 clear A20
 by_cases c3 : s0_2 = true
 ·subst c3
  have H1 : (some ((⟨#[]⟩ : ByteArray),s0_1,true)) = some (r1,r2,r3):=by rw [if_pos rfl] at H;exact H
  clear H
  have H:=H1
  clear H1
  simp only [Option.some.injEq,Prod.mk.injEq] at H
  obtain ⟨rfl,rfl,rfl⟩:=H
  obtain ⟨ASz4_0,cSz4_0,HGz4,hgz4,HSz4_0,HLnz4_0⟩:=HI0.out
  have hcz4_0:=cellS98_0 HGz4
  have hcz4_1:=cellS98_1 HGz4
  have hcz4_2:=cellS98_2 HGz4
  have hfz4_1:=kF_ HGz4 1
  have hfz4_2:=kF_ HGz4 2
  clear HGz4 hgz4
  go_enter Try.func77,Try.ntmps77
  go_wp2_with (first | (go_at_call 144;(with_reducible refine (spec_GetText.calls k _ _ s0_0 s0_1 t216 t217 t218 _ ?side1 ?side2 A2.out).mono ?_);(case side1=>exact Kd.C_below HSz4_0 (by have e0_:=aM_ (J98.ge HI0.out);exact bZ_ HB));(case side2=>exact HLnz4_0);rintro e w' ⟨rfl,⟨nd,rfl⟩⟩;(try first | exact ⟨rfl,_,World.drewN_drewN _ _ _⟩ | exact ⟨rfl,_,Eq.trans (World.drewN_drewN _ _ _) (congrArg (World.drewN _) (Nat.add_assoc _ _ _))⟩)))
  repeat (go_quiet (first | (go_at_call 144;(with_reducible refine (spec_GetText.calls k _ _ s0_0 s0_1 t216 t217 t218 _ ?side1 ?side2 A2.out).mono ?_);(case side1=>exact Kd.C_below HSz4_0 (by have e0_:=aM_ (J98.ge HI0.out);exact bZ_ HB));(case side2=>exact HLnz4_0);rintro e w' ⟨rfl,⟨nd,rfl⟩⟩;(try first | exact ⟨rfl,_,World.drewN_drewN _ _ _⟩ | exact ⟨rfl,_,Eq.trans (World.drewN_drewN _ _ _) (congrArg (World.drewN _) (Nat.add_assoc _ _ _))⟩)));try go_wp2_with (first | (go_at_call 144;(with_reducible refine (spec_GetText.calls k _ _ s0_0 s0_1 t216 t217 t218 _ ?side1 ?side2 A2.out).mono ?_);(case side1=>exact Kd.C_below HSz4_0 (by have e0_:=aM_ (J98.ge HI0.out);exact bZ_ HB));(case side2=>exact HLnz4_0);rintro e w' ⟨rfl,⟨nd,rfl⟩⟩;(try first | exact ⟨rfl,_,World.drewN_drewN _ _ _⟩ | exact ⟨rfl,_,Eq.trans (World.drewN_drewN _ _ _) (congrArg (World.drewN _) (Nat.add_assoc _ _ _))⟩))))
  go_ret
  exact ⟨by first | rfl | (simp [errW_none,errW_some] <;> rfl) | (simp [*, errW_none,errW_some] <;> rfl),by repeat first | exact J98.z HI0 | apply J98.set_1 | apply J98.set_2 | refine J98.y ?_,by have e0_:=aM_ (J98.ge HI0.out);exact bZ_ HB,by exact eZ_ HK⟩
 ·replace c3:=Bool.eq_false_iff.mpr c3
  subst c3
  have H1 : (if t218 = true then (some (t216,t217,false)) else (some ((⟨#[]⟩ : ByteArray),s0_1,true))) = some (r1,r2,r3):=by rw [if_neg (show ¬ (false = true) by decide)] at H;exact H
  clear H
  have H:=H1
  clear H1
  by_cases c5 : t218 = true
  ·subst c5
   have H1 : (some (t216,t217,false)) = some (r1,r2,r3):=by rw [if_pos rfl] at H;exact H
   clear H
   have H:=H1
   clear H1
   simp only [Option.some.injEq,Prod.mk.injEq] at H
   obtain ⟨rfl,rfl,rfl⟩:=H
   obtain ⟨ASz6_0,cSz6_0,HGz6,hgz6,HSz6_0,HLnz6_0⟩:=HI0.out
   have hcz6_0:=cellS98_0 HGz6
   have hcz6_1:=cellS98_1 HGz6
   have hcz6_2:=cellS98_2 HGz6
   have hfz6_1:=kF_ HGz6 1
   have hfz6_2:=kF_ HGz6 2
   clear HGz6 hgz6
   go_enter Try.func77,Try.ntmps77
   go_wp2_with (first | (go_at_call 144;(with_reducible refine (spec_GetText.calls k _ _ s0_0 s0_1 t216 t217 true _ ?side1 ?side2 A2.out).mono ?_);(case side1=>exact Kd.C_below HSz6_0 (by have e0_:=aM_ (J98.ge HI0.out);exact bZ_ HB));(case side2=>exact HLnz6_0);rintro e w' ⟨rfl,⟨nd,rfl⟩⟩;(try first | exact ⟨rfl,_,World.drewN_drewN _ _ _⟩ | exact ⟨rfl,_,Eq.trans (World.drewN_drewN _ _ _) (congrArg (World.drewN _) (Nat.add_assoc _ _ _))⟩)))
   repeat (go_quiet (first | (go_at_call 144;(with_reducible refine (spec_GetText.calls k _ _ s0_0 s0_1 t216 t217 true _ ?side1 ?side2 A2.out).mono ?_);(case side1=>exact Kd.C_below HSz6_0 (by have e0_:=aM_ (J98.ge HI0.out);exact bZ_ HB));(case side2=>exact HLnz6_0);rintro e w' ⟨rfl,⟨nd,rfl⟩⟩;(try first | exact ⟨rfl,_,World.drewN_drewN _ _ _⟩ | exact ⟨rfl,_,Eq.trans (World.drewN_drewN _ _ _) (congrArg (World.drewN _) (Nat.add_assoc _ _ _))⟩)));try go_wp2_with (first | (go_at_call 144;(with_reducible refine (spec_GetText.calls k _ _ s0_0 s0_1 t216 t217 true _ ?side1 ?side2 A2.out).mono ?_);(case side1=>exact Kd.C_below HSz6_0 (by have e0_:=aM_ (J98.ge HI0.out);exact bZ_ HB));(case side2=>exact HLnz6_0);rintro e w' ⟨rfl,⟨nd,rfl⟩⟩;(try first | exact ⟨rfl,_,World.drewN_drewN _ _ _⟩ | exact ⟨rfl,_,Eq.trans (World.drewN_drewN _ _ _) (congrArg (World.drewN _) (Nat.add_assoc _ _ _))⟩))))
   go_ret
   exact ⟨by first | rfl | (simp [errW_none,errW_some] <;> rfl) | (simp [*, errW_none,errW_some] <;> rfl),by repeat first | exact J98.z HI0 | apply J98.set_1 | apply J98.set_2 | refine J98.y ?_,by have e0_:=aM_ (J98.ge HI0.out);exact bZ_ HB,by exact eZ_ HK⟩
  ·replace c5:=Bool.eq_false_iff.mpr c5
   subst c5
   have H1 : (some ((⟨#[]⟩ : ByteArray),s0_1,true)) = some (r1,r2,r3):=by rw [if_neg (show ¬ (false = true) by decide)] at H;exact H
   clear H
   have H:=H1
   clear H1
   simp only [Option.some.injEq,Prod.mk.injEq] at H
   obtain ⟨rfl,rfl,rfl⟩:=H
   obtain ⟨ASz7_0,cSz7_0,HGz7,hgz7,HSz7_0,HLnz7_0⟩:=HI0.out
   have hcz7_0:=cellS98_0 HGz7
   have hcz7_1:=cellS98_1 HGz7
   have hcz7_2:=cellS98_2 HGz7
   have hfz7_1:=kF_ HGz7 1
   have hfz7_2:=kF_ HGz7 2
   clear HGz7 hgz7
   go_enter Try.func77,Try.ntmps77
   go_wp2_with (first | (go_at_call 144;(with_reducible refine (spec_GetText.calls k _ _ s0_0 s0_1 t216 t217 false _ ?side1 ?side2 A2.out).mono ?_);(case side1=>exact Kd.C_below HSz7_0 (by have e0_:=aM_ (J98.ge HI0.out);exact bZ_ HB));(case side2=>exact HLnz7_0);rintro e w' ⟨rfl,⟨nd,rfl⟩⟩;(try first | exact ⟨rfl,_,World.drewN_drewN _ _ _⟩ | exact ⟨rfl,_,Eq.trans (World.drewN_drewN _ _ _) (congrArg (World.drewN _) (Nat.add_assoc _ _ _))⟩)))
   repeat (go_quiet (first | (go_at_call 144;(with_reducible refine (spec_GetText.calls k _ _ s0_0 s0_1 t216 t217 false _ ?side1 ?side2 A2.out).mono ?_);(case side1=>exact Kd.C_below HSz7_0 (by have e0_:=aM_ (J98.ge HI0.out);exact bZ_ HB));(case side2=>exact HLnz7_0);rintro e w' ⟨rfl,⟨nd,rfl⟩⟩;(try first | exact ⟨rfl,_,World.drewN_drewN _ _ _⟩ | exact ⟨rfl,_,Eq.trans (World.drewN_drewN _ _ _) (congrArg (World.drewN _) (Nat.add_assoc _ _ _))⟩)));try go_wp2_with (first | (go_at_call 144;(with_reducible refine (spec_GetText.calls k _ _ s0_0 s0_1 t216 t217 false _ ?side1 ?side2 A2.out).mono ?_);(case side1=>exact Kd.C_below HSz7_0 (by have e0_:=aM_ (J98.ge HI0.out);exact bZ_ HB));(case side2=>exact HLnz7_0);rintro e w' ⟨rfl,⟨nd,rfl⟩⟩;(try first | exact ⟨rfl,_,World.drewN_drewN _ _ _⟩ | exact ⟨rfl,_,Eq.trans (World.drewN_drewN _ _ _) (congrArg (World.drewN _) (Nat.add_assoc _ _ _))⟩))))
   go_ret
   exact ⟨by first | rfl | (simp [errW_none,errW_some] <;> rfl) | (simp [*, errW_none,errW_some] <;> rfl),by repeat first | exact J98.z HI0 | apply J98.set_1 | apply J98.set_2 | refine J98.y ?_,by have e0_:=aM_ (J98.ge HI0.out);exact bZ_ HB,by exact eZ_ HK⟩
end Go.Proofs.Ytllgmgpfdnofmaa.PFnNodes
