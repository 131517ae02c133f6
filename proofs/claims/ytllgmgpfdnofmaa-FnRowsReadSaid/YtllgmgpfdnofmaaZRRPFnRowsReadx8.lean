import Derived.Test.YtllgmgpfdnofmaaZRRPFnRowsReadx0
namespace Go.Proofs.Ytllgmgpfdnofmaa.PFnRowsRead
open Go.RowKit Go.Proofs.YtllgmgpfdnofmaaW.PrintWords Go.Proofs.YtllgmgpfdnofmaaW.PrintLast Go.Proofs.YtllgmgpfdnofmaaW.PrintMore Go.Proofs.Ytllgmgpfdnofmaa.Xtra
attribute [local go_sem] max2_int min2_int max_two min_two max_three min_three max_four min_four str_leq str_gtr str_geq setCell_drewN cell_set2 cell_set3   -- for this text's walks alone
set_option linter.unusedVariables false
set_option linter.unusedSimpArgs false
mutual
def spec_GetU.l0 : Nat → List Int → Int → Int → Int → Option (Int × Int × Bool)
 | 0,_,_,_,_=>none
 | k + 1,x0,x1,x7,x8=>if x8 < 3 then (if x1 ≥ 0 then (if x1 < (x0.length : Int) then (spec_GetU.j1 k x0 x1 x7 x8 (decide ((wrap64 (x1 + x8)) < (x0.length : Int)))) else (spec_GetU.j1 k x0 x1 x7 x8 false)) else (spec_GetU.j1 k x0 x1 x7 x8 false)) else (spec_GetU.j1 k x0 x1 x7 x8 false)
def spec_GetU.j1 : Nat → List Int → Int → Int → Int → Bool → Option (Int × Int × Bool)
 | 0,_,_,_,_,_=>none
 | k + 1,x0,x1,x7,x8,x29=>if x29 = true then (if 0 ≤ (wrap64 (x1 + x8)) then (if (wrap64 (x1 + x8)) < (x0.length : Int) then (if 0 ≤ (IntKind.u64.wrap (wrap64 (7 * x8))) then (if (wrap64 (rd x0 (wrap64 (x1 + x8)))) > 127 then (spec_GetU.l0 k x0 x1 (Go.bits .or .i64 x7 (shl .i64 (Go.bits .and .i64 (wrap64 (rd x0 (wrap64 (x1 + x8)))) 127) (IntKind.u64.wrap (wrap64 (7 * x8))))) (wrap64 (x8 + 1))) else (if x8 > 0 then (if (wrap64 (rd x0 (wrap64 (x1 + x8)))) = 0 then (some (0,0,false)) else (if (Go.bits .or .i64 x7 (shl .i64 (Go.bits .and .i64 (wrap64 (rd x0 (wrap64 (x1 + x8)))) 127) (IntKind.u64.wrap (wrap64 (7 * x8))))) > 1000000 then (some (0,0,false)) else (some (Go.bits .or .i64 x7 (shl .i64 (Go.bits .and .i64 (wrap64 (rd x0 (wrap64 (x1 + x8)))) 127) (IntKind.u64.wrap (wrap64 (7 * x8)))),wrap64 ((wrap64 (x1 + x8)) + 1),true)))) else (if (Go.bits .or .i64 x7 (shl .i64 (Go.bits .and .i64 (wrap64 (rd x0 (wrap64 (x1 + x8)))) 127) (IntKind.u64.wrap (wrap64 (7 * x8))))) > 1000000 then (some (0,0,false)) else (some (Go.bits .or .i64 x7 (shl .i64 (Go.bits .and .i64 (wrap64 (rd x0 (wrap64 (x1 + x8)))) 127) (IntKind.u64.wrap (wrap64 (7 * x8)))),wrap64 ((wrap64 (x1 + x8)) + 1),true))))) else (none)) else (none)) else (none)) else (some (0,0,false))
end
def spec_GetU.f (k : Nat) (l0 : List Int) (a1 : Int) : Option (Int × Int × Bool):=spec_GetU.l0 k l0 a1 0 0
theorem spec_GetU.mono_l : ∀ k,(∀ y0 y1 y2 y3,LeO (spec_GetU.l0 k y0 y1 y2 y3) (spec_GetU.l0 (k + 1) y0 y1 y2 y3)) ∧ (∀ y0 y1 y2 y3 y4,LeO (spec_GetU.j1 k y0 y1 y2 y3 y4) (spec_GetU.j1 (k + 1) y0 y1 y2 y3 y4))
 | 0=>⟨fun _ _ _ _ r h=>by simp [spec_GetU.l0] at h,fun _ _ _ _ _ r h=>by simp [spec_GetU.j1] at h⟩
 | k + 1=>by
  obtain ⟨ih0,ih1⟩:=spec_GetU.mono_l k
  refine ⟨?_,?_⟩
  ·intro y0 y1 y2 y3
   unfold spec_GetU.l0
   repeat' first
   | (with_reducible exact ih0 _ _ _ _)
   | (with_reducible exact ih1 _ _ _ _ _)
   | (with_reducible exact LeO.refl _)
   | (with_reducible exact LeO.none _)
   | (with_reducible refine LeO.ite ?_ ?_)
   | (with_reducible refine LeO.bind ?_ (fun _=>?_))
   | exact ih0 _ _ _ _
   | exact ih1 _ _ _ _ _
   | exact LeO.none _
   | refine LeO.ite ?_ ?_
   | refine LeO.bind ?_ (fun _=>?_)
  ·intro y0 y1 y2 y3 y4
   unfold spec_GetU.j1
   repeat' first
   | (with_reducible exact ih0 _ _ _ _)
   | (with_reducible exact ih1 _ _ _ _ _)
   | (with_reducible exact LeO.refl _)
   | (with_reducible exact LeO.none _)
   | (with_reducible refine LeO.ite ?_ ?_)
   | (with_reducible refine LeO.bind ?_ (fun _=>?_))
   | exact ih0 _ _ _ _
   | exact ih1 _ _ _ _ _
   | exact LeO.none _
   | refine LeO.ite ?_ ?_
   | refine LeO.bind ?_ (fun _=>?_)
theorem spec_GetU.mono : ∀ a0 a1 k,LeO (spec_GetU.f k a0 a1) (spec_GetU.f (k + 1) a0 a1):=by
 intro a0 a1 k
 obtain ⟨ih0,ih1⟩:=spec_GetU.mono_l k
 unfold spec_GetU.f
 repeat' first
   | (with_reducible exact ih0 _ _ _ _)
   | (with_reducible exact ih1 _ _ _ _ _)
   | (with_reducible exact LeO.refl _)
   | (with_reducible exact LeO.none _)
   | (with_reducible refine LeO.ite ?_ ?_)
   | (with_reducible refine LeO.bind ?_ (fun _=>?_))
   | exact ih0 _ _ _ _
   | exact ih1 _ _ _ _ _
   | exact LeO.none _
   | refine LeO.ite ?_ ?_
   | refine LeO.bind ?_ (fun _=>?_)
set_option maxHeartbeats 8000000 in
set_option maxRecDepth 100000 in
theorem spec_GetU.calls (k : Nat) (A0 : Option Addr) (c0 : Nat) (l0 : List Int) (a1 : Int) (r1 : Int) (r2 : Int) (r3 : Bool) (w : World) (hr0 : Kd.C (Kd.int .u8) w A0 l0.length l0) (hc0 : l0.length ≤ c0) (h : spec_GetU.f k l0 a1 = some (r1,r2,r3)) :
  Calls Try.prog 117 #[.slice A0 l0.length c0,.int .i64 a1] w fun e w'=>e = .returned (.tuple #[.int .i64 r1,.int .i64 r2,.bool r3]) ∧ Drawn0 w w':=by
 have HR0:=aM_ hr0
 have HC0:=aM_ hc0
 clear hr0 hc0
 have H : (spec_GetU.l0 k l0 a1 0 0) = some (r1,r2,r3):=h
 clear h
 have H':=aM_ H
 clear H
 go_enter Try.func117,Try.ntmps117
 go_wp2
 (try simp only [Act.put,sI_,sS_,sZ_])
 go_loopg [7,8] k (fun kq v7 v8 w'=>∃ (x7_1 : Int) (x8_1 : Int),v7 = .int .i64 x7_1 ∧ v8 = .int .i64 x8_1 ∧ Aside0 (spec_GetU.l0 kq l0 a1 x7_1 x8_1 = some (r1,r2,r3)) ∧ Aside0 (kq ≤ k) ∧ Drawn0 w w')
 case atStart=>exact ⟨(0),(0),(by first | rfl | (simp;done) | (simp [*];done)),(by first | rfl | (simp;done) | (simp [*];done)),H', ⟨Nat.le_refl _⟩,by repeat (first | exact Drawn0.refl _ | apply Drawn0.step)⟩
 case round =>
  clear H'
  try clear c1
  try clear p2
  obtain ⟨x7_1,x8_1,rfl,rfl,HA,HK1,⟨m1,rfl⟩⟩:=hrel
  cases gk with
  | zero=>exact absurd HA.out (by simp [spec_GetU.l0])
  | succ k1 =>
   have H:=HA.out
   clear HA
   simp only [spec_GetU.l0] at H
   have HC3:=aM_ H
   clear H
   go_upto_region 3 with (fail)
   go_cut [29] (fun v29 wc=>∃ (kq : Nat) (x29_2 : Bool),v29 = .bool x29_2 ∧ Aside0 (spec_GetU.j1 kq l0 a1 x7_1 x8_1 x29_2 = some (r1,r2,r3)) ∧ Aside0 (kq ≤ k1) ∧ Drawn0 w wc)
   case first =>
    have H:=HC3.out
    clear HC3
    by_cases c4 : x8_1 < 3
    ·rw [if_pos c4] at H
     have c4b0 : decide (x8_1 < 3) = true:=decide_eq_true c4
     clear c4
     (first | rw [c4b0] | (simp only [i64_w,i32_w];rw [c4b0]) | skip)
     by_cases c5 : a1 ≥ 0
     ·rw [if_pos c5] at H
      have c5b0 : decide (0 ≤ a1) = true:=decide_eq_true c5
      clear c5
      by_cases c6 : a1 < (l0.length : Int)
      ·rw [if_pos c6] at H
       have c6b0 : decide (a1 < (l0.length : Int)) = true:=decide_eq_true c6
       clear c6
       have H':=aM_ H
       clear H
       go_wp2
       (first | go_meet | (refine Met.intro ?_;go_step;(repeat apply Exists.intro);refine ⟨?rel,?eq⟩;(case eq=>(try simp only [c10b0]);(try simp only [c10b0]);(try simp only [c4b0]);rfl)))
       case rel=>exact ⟨_,(decide ((wrap64 (a1 + x8_1)) < (l0.length : Int))),(by first | rfl | (simp;done) | (simp [*];done)),H', ⟨by have:=HK1.out;first | omega | exact Nat.le_refl _⟩,by repeat (first | exact Drawn0.refl _ | apply Drawn0.step)⟩
      ·rw [if_neg c6] at H
       have c6b0 : decide (a1 < (l0.length : Int)) = false:=decide_eq_false c6
       clear c6
       have H':=aM_ H
       clear H
       go_wp2
       (first | go_meet | (refine Met.intro ?_;go_step;(repeat apply Exists.intro);refine ⟨?rel,?eq⟩;(case eq=>(try simp only [c10b0]);(try simp only [c10b0]);(try simp only [c4b0]);rfl)))
       case rel=>exact ⟨_,(false),(by first | rfl | (simp;done) | (simp [*];done)),H', ⟨by have:=HK1.out;first | omega | exact Nat.le_refl _⟩,by repeat (first | exact Drawn0.refl _ | apply Drawn0.step)⟩
     ·rw [if_neg c5] at H
      have c5b0 : decide (0 ≤ a1) = false:=decide_eq_false c5
      clear c5
      have H':=aM_ H
      clear H
      go_wp2
      (first | go_meet | (refine Met.intro ?_;go_step;(repeat apply Exists.intro);refine ⟨?rel,?eq⟩;(case eq=>(try simp only [c10b0]);(try simp only [c10b0]);(try simp only [c4b0]);rfl)))
      case rel=>exact ⟨_,(false),(by first | rfl | (simp;done) | (simp [*];done)),H', ⟨by have:=HK1.out;first | omega | exact Nat.le_refl _⟩,by repeat (first | exact Drawn0.refl _ | apply Drawn0.step)⟩
    ·rw [if_neg c4] at H
     have c4b0 : decide (x8_1 < 3) = false:=decide_eq_false c4
     clear c4
     (first | rw [c4b0] | (simp only [i64_w,i32_w];rw [c4b0]) | skip)
     have H':=aM_ H
     clear H
     go_wp2
     (first | go_meet | (refine Met.intro ?_;go_step;(repeat apply Exists.intro);refine ⟨?rel,?eq⟩;(case eq=>(try simp only [c10b0]);(try simp only [c4b0]);(try simp only [c4b0]);rfl)))
     case rel=>exact ⟨_,(false),(by first | rfl | (simp;done) | (simp [*];done)),H', ⟨by have:=HK1.out;first | omega | exact Nat.le_refl _⟩,by repeat (first | exact Drawn0.refl _ | apply Drawn0.step)⟩
   case rest =>
    clear HC3
    try clear c1
    try clear p2
    try clear c4
    try clear c4b0
    try clear c5
    try clear c5b0
    try clear c6
    try clear c6b0
    try clear p6
    try clear p2
    obtain ⟨kq,x29_2,rfl,HA,HJ2,⟨mc2,rfl⟩⟩:=hcut
    cases kq with
    | zero=>exact absurd HA.out (by simp [spec_GetU.j1])
    | succ kj2 =>
     have H:=HA.out
     clear HA
     simp only [spec_GetU.j1] at H
     by_cases c7 : x29_2 = true
     ·subst c7
      have H1 : (if 0 ≤ (wrap64 (a1 + x8_1)) then (if (wrap64 (a1 + x8_1)) < (l0.length : Int) then (if 0 ≤ (IntKind.u64.wrap (wrap64 (7 * x8_1))) then (if (wrap64 (rd l0 (wrap64 (a1 + x8_1)))) > 127 then (spec_GetU.l0 kj2 l0 a1 (Go.bits .or .i64 x7_1 (shl .i64 (Go.bits .and .i64 (wrap64 (rd l0 (wrap64 (a1 + x8_1)))) 127) (IntKind.u64.wrap (wrap64 (7 * x8_1))))) (wrap64 (x8_1 + 1))) else (if x8_1 > 0 then (if (wrap64 (rd l0 (wrap64 (a1 + x8_1)))) = 0 then (some (0,0,false)) else (if (Go.bits .or .i64 x7_1 (shl .i64 (Go.bits .and .i64 (wrap64 (rd l0 (wrap64 (a1 + x8_1)))) 127) (IntKind.u64.wrap (wrap64 (7 * x8_1))))) > 1000000 then (some (0,0,false)) else (some (Go.bits .or .i64 x7_1 (shl .i64 (Go.bits .and .i64 (wrap64 (rd l0 (wrap64 (a1 + x8_1)))) 127) (IntKind.u64.wrap (wrap64 (7 * x8_1)))),wrap64 ((wrap64 (a1 + x8_1)) + 1),true)))) else (if (Go.bits .or .i64 x7_1 (shl .i64 (Go.bits .and .i64 (wrap64 (rd l0 (wrap64 (a1 + x8_1)))) 127) (IntKind.u64.wrap (wrap64 (7 * x8_1))))) > 1000000 then (some (0,0,false)) else (some (Go.bits .or .i64 x7_1 (shl .i64 (Go.bits .and .i64 (wrap64 (rd l0 (wrap64 (a1 + x8_1)))) 127) (IntKind.u64.wrap (wrap64 (7 * x8_1)))),wrap64 ((wrap64 (a1 + x8_1)) + 1),true))))) else (none)) else (none)) else (none)) = some (r1,r2,r3):=by rw [if_pos rfl] at H;exact H
      clear H
      have H:=H1
      clear H1
      obtain ⟨ji8,hji8⟩ : ∃ j_ : Int,(wrap64 (a1 + x8_1)) = j_:=⟨_,rfl⟩
      replace H : (if 0 ≤ (ji8) then (if (ji8) < (l0.length : Int) then (if 0 ≤ (IntKind.u64.wrap (wrap64 (7 * x8_1))) then (if (wrap64 (rd l0 (ji8))) > 127 then (spec_GetU.l0 kj2 l0 a1 (Go.bits .or .i64 x7_1 (shl .i64 (Go.bits .and .i64 (wrap64 (rd l0 (ji8))) 127) (IntKind.u64.wrap (wrap64 (7 * x8_1))))) (wrap64 (x8_1 + 1))) else (if x8_1 > 0 then (if (wrap64 (rd l0 (ji8))) = 0 then (some (0,0,false)) else (if (Go.bits .or .i64 x7_1 (shl .i64 (Go.bits .and .i64 (wrap64 (rd l0 (ji8))) 127) (IntKind.u64.wrap (wrap64 (7 * x8_1))))) > 1000000 then (some (0,0,false)) else (some (Go.bits .or .i64 x7_1 (shl .i64 (Go.bits .and .i64 (wrap64 (rd l0 (ji8))) 127) (IntKind.u64.wrap (wrap64 (7 * x8_1)))),wrap64 ((ji8) + 1),true)))) else (if (Go.bits .or .i64 x7_1 (shl .i64 (Go.bits .and .i64 (wrap64 (rd l0 (ji8))) 127) (IntKind.u64.wrap (wrap64 (7 * x8_1))))) > 1000000 then (some (0,0,false)) else (some (Go.bits .or .i64 x7_1 (shl .i64 (Go.bits .and .i64 (wrap64 (rd l0 (ji8))) 127) (IntKind.u64.wrap (wrap64 (7 * x8_1)))),wrap64 ((ji8) + 1),true))))) else (none)) else (none)) else (none)) = some (r1,r2,r3):=by first | (rw [hji8] at H;exact H) | (simp only [hji8] at H ⊢;exact H)
      have hji8w : (IntKind.i64.wrap (a1 + x8_1)) = ji8:=(i64_w _).trans hji8
      by_cases c9 : 0 ≤ (ji8)
      ·rw [if_pos c9] at H
       have c9b0 : decide (0 ≤ (ji8)) = true:=decide_eq_true c9
       clear c9
       by_cases c10 : (ji8) < (l0.length : Int)
       ·rw [if_pos c10] at H
        have c10b0 : decide ((ji8) < (l0.length : Int)) = true:=decide_eq_true c10
        clear c10
        obtain ⟨ji11,hji11⟩ : ∃ j_ : Int,(IntKind.u64.wrap (wrap64 (7 * x8_1))) = j_:=⟨_,rfl⟩
        replace H : (if 0 ≤ (ji11) then (if (wrap64 (rd l0 (ji8))) > 127 then (spec_GetU.l0 kj2 l0 a1 (Go.bits .or .i64 x7_1 (shl .i64 (Go.bits .and .i64 (wrap64 (rd l0 (ji8))) 127) (ji11))) (wrap64 (x8_1 + 1))) else (if x8_1 > 0 then (if (wrap64 (rd l0 (ji8))) = 0 then (some (0,0,false)) else (if (Go.bits .or .i64 x7_1 (shl .i64 (Go.bits .and .i64 (wrap64 (rd l0 (ji8))) 127) (ji11))) > 1000000 then (some (0,0,false)) else (some (Go.bits .or .i64 x7_1 (shl .i64 (Go.bits .and .i64 (wrap64 (rd l0 (ji8))) 127) (ji11)),wrap64 ((ji8) + 1),true)))) else (if (Go.bits .or .i64 x7_1 (shl .i64 (Go.bits .and .i64 (wrap64 (rd l0 (ji8))) 127) (ji11))) > 1000000 then (some (0,0,false)) else (some (Go.bits .or .i64 x7_1 (shl .i64 (Go.bits .and .i64 (wrap64 (rd l0 (ji8))) 127) (ji11)),wrap64 ((ji8) + 1),true))))) else (none)) = some (r1,r2,r3):=by first | (rw [hji11] at H;exact H) | (simp only [hji11] at H ⊢;exact H)
        by_cases c12 : 0 ≤ (ji11)
        ·rw [if_pos c12] at H
         have c12b0:=eq_true c12
         have c12b1 : decide (0 ≤ (ji11)) = true:=decide_eq_true c12
         clear c12
         obtain ⟨ji13,hji13⟩ : ∃ j_ : Int,(shl .i64 (Go.bits .and .i64 (wrap64 (rd l0 (ji8))) 127) (ji11)) = j_:=⟨_,rfl⟩
         replace H : (if (wrap64 (rd l0 (ji8))) > 127 then (spec_GetU.l0 kj2 l0 a1 (Go.bits .or .i64 x7_1 (ji13)) (wrap64 (x8_1 + 1))) else (if x8_1 > 0 then (if (wrap64 (rd l0 (ji8))) = 0 then (some (0,0,false)) else (if (Go.bits .or .i64 x7_1 (ji13)) > 1000000 then (some (0,0,false)) else (some (Go.bits .or .i64 x7_1 (ji13),wrap64 ((ji8) + 1),true)))) else (if (Go.bits .or .i64 x7_1 (ji13)) > 1000000 then (some (0,0,false)) else (some (Go.bits .or .i64 x7_1 (ji13),wrap64 ((ji8) + 1),true))))) = some (r1,r2,r3):=by first | (rw [hji13] at H;exact H) | (simp only [hji13] at H ⊢;exact H)
         have hji13_ : (IntKind.i64.wrap ((Go.bits .and .i64 (wrap64 (rd l0 (ji8))) 127) * 2 ^ min (ji11).toNat 64)) = ji13:=hji13
         have hji13z : (ji11) ≤ 64 → (IntKind.i64.wrap ((Go.bits .and .i64 (wrap64 (rd l0 (ji8))) 127) * 2 ^ (ji11).toNat)) = ji13:=shl_small hji13
         have hji13y : (wrap64 ((Go.bits .and .i64 (wrap64 (rd l0 (ji8))) 127) * 2 ^ min (ji11).toNat 64)) = ji13:=(i64_w _).symm.trans hji13_
         have hji13x : (ji11) ≤ 64 → (wrap64 ((Go.bits .and .i64 (wrap64 (rd l0 (ji8))) 127) * 2 ^ (ji11).toNat)) = ji13:=fun h_=>(i64_w _).symm.trans (hji13z h_)
         by_cases c14 : (wrap64 (rd l0 (ji8))) > 127
         ·rw [if_pos c14] at H
          have c14b0 : decide (127 < (wrap64 (rd l0 (ji8)))) = true:=decide_eq_true c14
          clear c14
          have H':=aM_ H
          clear H
          have p292 : 0 ≤ ((ji8) : Int):=oT_ (by first | (with_reducible assumption) | assumption)
          have q292 : (ji8) < (l0.length : Int):=oT_ (by first | (with_reducible assumption) | assumption)
          obtain ⟨ad292,e292,hx292_0⟩:=Kd.at_int HR0.out (ji8) p292 q292
          cases e292
          replace p292:=eq_true p292
          replace q292:=eq_true q292
          go_wp2
          go_roundg kj2
          case measure=>have:=HK1.out;have:=HJ2.out;omega
          case rel=>exact ⟨(Go.bits .or .i64 x7_1 (ji13)),(wrap64 (x8_1 + 1)),(by first | rfl | (simp;done) | (simp only [← hji13] <;> (first | rfl | simp)) | (simp [*];done)),(by first | rfl | (simp;done) | (simp [*];done)),H', ⟨by have:=HK1.out;have:=HJ2.out;omega⟩,by repeat (first | exact Drawn0.refl _ | apply Drawn0.step)⟩
         ·rw [if_neg c14] at H
          have c14b0 : decide (127 < (wrap64 (rd l0 (ji8)))) = false:=decide_eq_false c14
          clear c14
          by_cases c15 : x8_1 > 0
          ·rw [if_pos c15] at H
           have c15b0 : decide (0 < x8_1) = true:=decide_eq_true c15
           clear c15
           by_cases c16 : (wrap64 (rd l0 (ji8))) = 0
           ·rw [if_pos c16] at H
            have c16b0 : ((wrap64 (rd l0 (ji8))) == 0) = true:=beq_iff_eq.mpr c16
            have c16b1 : ((wrap64 (rd l0 (ji8))) != 0) = false:=bne_eq_false_iff_eq.mpr c16
            clear c16
            simp only [Option.some.injEq,Prod.mk.injEq] at H
            obtain ⟨rfl,rfl,rfl⟩:=H
            have p292 : 0 ≤ ((ji8) : Int):=oT_ (by first | (with_reducible assumption) | assumption)
            have q292 : (ji8) < (l0.length : Int):=oT_ (by first | (with_reducible assumption) | assumption)
            obtain ⟨ad292,e292,hx292_0⟩:=Kd.at_int HR0.out (ji8) p292 q292
            cases e292
            replace p292:=eq_true p292
            replace q292:=eq_true q292
            go_wp2
            go_ret3
            exact ⟨by first | rfl | (simp;done) | (simp only [← hji8,← hji11,← hji13] <;> (first | rfl | simp)) | (simp [*];done),by repeat (first | exact Drawn0.refl _ | apply Drawn0.step)⟩
           ·rw [if_neg c16] at H
            have c16b0 : ((wrap64 (rd l0 (ji8))) == 0) = false:=beq_eq_false_iff_ne.mpr c16
            have c16b1 : ((wrap64 (rd l0 (ji8))) != 0) = true:=bne_iff_ne.mpr c16
            by_cases c17 : (Go.bits .or .i64 x7_1 (ji13)) > 1000000
            ·rw [if_pos c17] at H
             have c17b0 : decide (1000000 < (Go.bits .or .i64 x7_1 (ji13))) = true:=decide_eq_true c17
             clear c17
             simp only [Option.some.injEq,Prod.mk.injEq] at H
             obtain ⟨rfl,rfl,rfl⟩:=H
             have p292 : 0 ≤ ((ji8) : Int):=oT_ (by first | (with_reducible assumption) | assumption)
             have q292 : (ji8) < (l0.length : Int):=oT_ (by first | (with_reducible assumption) | assumption)
             obtain ⟨ad292,e292,hx292_0⟩:=Kd.at_int HR0.out (ji8) p292 q292
             cases e292
             replace p292:=eq_true p292
             replace q292:=eq_true q292
             go_wp2
             go_ret3
             exact ⟨by first | rfl | (simp;done) | (simp only [← hji8,← hji11,← hji13] <;> (first | rfl | simp)) | (simp [*];done),by repeat (first | exact Drawn0.refl _ | apply Drawn0.step)⟩
            ·rw [if_neg c17] at H
             have c17b0 : decide (1000000 < (Go.bits .or .i64 x7_1 (ji13))) = false:=decide_eq_false c17
             clear c17
             simp only [Option.some.injEq,Prod.mk.injEq] at H
             obtain ⟨rfl,rfl,rfl⟩:=H
             have p292 : 0 ≤ ((ji8) : Int):=oT_ (by first | (with_reducible assumption) | assumption)
             have q292 : (ji8) < (l0.length : Int):=oT_ (by first | (with_reducible assumption) | assumption)
             obtain ⟨ad292,e292,hx292_0⟩:=Kd.at_int HR0.out (ji8) p292 q292
             cases e292
             replace p292:=eq_true p292
             replace q292:=eq_true q292
             go_wp2
             go_ret3
             exact ⟨by first | rfl | (simp;done) | (simp only [← hji8,← hji11,← hji13] <;> (first | rfl | simp)) | (simp [*];done),by repeat (first | exact Drawn0.refl _ | apply Drawn0.step)⟩
          ·rw [if_neg c15] at H
           have c15b0 : decide (0 < x8_1) = false:=decide_eq_false c15
           clear c15
           by_cases c18 : (Go.bits .or .i64 x7_1 (ji13)) > 1000000
           ·rw [if_pos c18] at H
            have c18b0 : decide (1000000 < (Go.bits .or .i64 x7_1 (ji13))) = true:=decide_eq_true c18
            clear c18
            simp only [Option.some.injEq,Prod.mk.injEq] at H
            obtain ⟨rfl,rfl,rfl⟩:=H
            have p292 : 0 ≤ ((ji8) : Int):=oT_ (by first | (with_reducible assumption) | assumption)
            have q292 : (ji8) < (l0.length : Int):=oT_ (by first | (with_reducible assumption) | assumption)
            obtain ⟨ad292,e292,hx292_0⟩:=Kd.at_int HR0.out (ji8) p292 q292
            cases e292
            replace p292:=eq_true p292
            replace q292:=eq_true q292
            go_wp2
            go_ret3
            exact ⟨by first | rfl | (simp;done) | (simp only [← hji8,← hji11,← hji13] <;> (first | rfl | simp)) | (simp [*];done),by repeat (first | exact Drawn0.refl _ | apply Drawn0.step)⟩
           ·rw [if_neg c18] at H
            have c18b0 : decide (1000000 < (Go.bits .or .i64 x7_1 (ji13))) = false:=decide_eq_false c18
            clear c18
            simp only [Option.some.injEq,Prod.mk.injEq] at H
            obtain ⟨rfl,rfl,rfl⟩:=H
            have p292 : 0 ≤ ((ji8) : Int):=oT_ (by first | (with_reducible assumption) | assumption)
            have q292 : (ji8) < (l0.length : Int):=oT_ (by first | (with_reducible assumption) | assumption)
            obtain ⟨ad292,e292,hx292_0⟩:=Kd.at_int HR0.out (ji8) p292 q292
            cases e292
            replace p292:=eq_true p292
            replace q292:=eq_true q292
            go_wp2
            go_ret3
            exact ⟨by first | rfl | (simp;done) | (simp only [← hji8,← hji11,← hji13] <;> (first | rfl | simp)) | (simp [*];done),by repeat (first | exact Drawn0.refl _ | apply Drawn0.step)⟩
        ·rw [if_neg c12] at H
         exact absurd H (by simp)
       ·rw [if_neg c10] at H
        exact absurd H (by simp)
      ·rw [if_neg c9] at H
       exact absurd H (by simp)
     ·replace c7:=Bool.eq_false_iff.mpr c7
      subst c7
      have H1 : (some (0,0,false)) = some (r1,r2,r3):=by rw [if_neg (show ¬ (false = true) by decide)] at H;exact H
      clear H
      have H:=H1
      clear H1
      simp only [Option.some.injEq,Prod.mk.injEq] at H
      obtain ⟨rfl,rfl,rfl⟩:=H
      go_wp2
      go_ret3
      exact ⟨by first | rfl | (simp;done) | (simp [*];done),by repeat (first | exact Drawn0.refl _ | apply Drawn0.step)⟩
def spec_GetText.f (k : Nat) (l0 : List Int) (a1 : Int) : Option (ByteArray × Int × Bool):=(spec_GetU.f k l0 a1).bind fun bt293=>(if bt293.2.2 = true then (if bt293.1 > (wrap64 ((l0.length : Int) - bt293.2.1)) then (some ((⟨#[]⟩ : ByteArray),0,false)) else (if 0 ≤ bt293.2.1 then (if bt293.2.1 ≤ (wrap64 (bt293.2.1 + bt293.1)) then (if (wrap64 (bt293.2.1 + bt293.1)) ≤ (l0.length : Int) then (some (strOfNums ((l0.take ((wrap64 (bt293.2.1 + bt293.1)) : Int).toNat).drop (bt293.2.1 : Int).toNat),wrap64 (bt293.2.1 + bt293.1),true)) else (none)) else (none)) else (none))) else (some ((⟨#[]⟩ : ByteArray),0,false)))
theorem spec_GetText.mono : ∀ a0 a1 k,LeO (spec_GetText.f k a0 a1) (spec_GetText.f (k + 1) a0 a1):=by
 intro a0 a1 k
 unfold spec_GetText.f
 repeat' first
   | (with_reducible exact spec_GetU.mono _ _ _)
   | (with_reducible exact LeO.refl _)
   | (with_reducible exact LeO.none _)
   | (with_reducible refine LeO.ite ?_ ?_)
   | (with_reducible refine LeO.bind ?_ (fun _=>?_))
   | exact spec_GetU.mono _ _ _
   | exact LeO.none _
   | refine LeO.ite ?_ ?_
   | refine LeO.bind ?_ (fun _=>?_)
set_option maxHeartbeats 8000000 in
set_option maxRecDepth 100000 in
theorem spec_GetText.calls (k : Nat) (A0 : Option Addr) (c0 : Nat) (l0 : List Int) (a1 : Int) (r1 : ByteArray) (r2 : Int) (r3 : Bool) (w : World) (hr0 : Kd.C (Kd.int .u8) w A0 l0.length l0) (hc0 : l0.length ≤ c0) (h : spec_GetText.f k l0 a1 = some (r1,r2,r3)) :
  Calls Try.prog 144 #[.slice A0 l0.length c0,.int .i64 a1] w fun e w'=>e = .returned (.tuple #[.string r1,.int .i64 r2,.bool r3]) ∧ Drawn0 w w':=by
 have HR0:=aM_ hr0
 have HC0:=aM_ hc0
 clear hr0 hc0
 have H : ((spec_GetU.f k l0 a1).bind fun bt293=>(if bt293.2.2 = true then (if bt293.1 > (wrap64 ((l0.length : Int) - bt293.2.1)) then (some ((⟨#[]⟩ : ByteArray),0,false)) else (if 0 ≤ bt293.2.1 then (if bt293.2.1 ≤ (wrap64 (bt293.2.1 + bt293.1)) then (if (wrap64 (bt293.2.1 + bt293.1)) ≤ (l0.length : Int) then (some (strOfNums ((l0.take ((wrap64 (bt293.2.1 + bt293.1)) : Int).toNat).drop (bt293.2.1 : Int).toNat),wrap64 (bt293.2.1 + bt293.1),true)) else (none)) else (none)) else (none))) else (some ((⟨#[]⟩ : ByteArray),0,false)))) = some (r1,r2,r3):=h
 clear h
 replace H:=oB_ H
 obtain ⟨⟨t293,t294,t295⟩,A30,H⟩:=H
 replace H : (if t295 = true then (if t293 > (wrap64 ((l0.length : Int) - t294)) then (some ((⟨#[]⟩ : ByteArray),0,false)) else (if 0 ≤ t294 then (if t294 ≤ (wrap64 (t294 + t293)) then (if (wrap64 (t294 + t293)) ≤ (l0.length : Int) then (some (strOfNums ((l0.take ((wrap64 (t294 + t293)) : Int).toNat).drop (t294 : Int).toNat),wrap64 (t294 + t293),true)) else (none)) else (none)) else (none))) else (some ((⟨#[]⟩ : ByteArray),0,false))) = some (r1,r2,r3):=H
 have A3:=aM_ A30
 clear A30
 by_cases c4 : t295 = true
 ·subst c4
  have H1 : (if t293 > (wrap64 ((l0.length : Int) - t294)) then (some ((⟨#[]⟩ : ByteArray),0,false)) else (if 0 ≤ t294 then (if t294 ≤ (wrap64 (t294 + t293)) then (if (wrap64 (t294 + t293)) ≤ (l0.length : Int) then (some (strOfNums ((l0.take ((wrap64 (t294 + t293)) : Int).toNat).drop (t294 : Int).toNat),wrap64 (t294 + t293),true)) else (none)) else (none)) else (none))) = some (r1,r2,r3):=by rw [if_pos rfl] at H;exact H
  clear H
  have H:=H1
  clear H1
  by_cases c5 : t293 > (wrap64 ((l0.length : Int) - t294))
  ·rw [if_pos c5] at H
   have c5b0 : decide ((wrap64 ((l0.length : Int) - t294)) < t293) = true:=decide_eq_true c5
   clear c5
   simp only [Option.some.injEq,Prod.mk.injEq] at H
   obtain ⟨rfl,rfl,rfl⟩:=H
   go_enter Try.func144,Try.ntmps144
   go_wp2_with (first | ((with_reducible refine gate_callee (f:=117) rfl ?_);refine goesL_ (some 13) rfl rfl Try.func117 (by kernel_rfl) rfl #[.slice A0 l0.length c0,.int .i64 a1] rfl (by (try simp only [mA_,mC_,mN_]);first | done | rfl | (simp only [lD_,lT_];rfl)) ?_;(with_reducible refine (spec_GetU.calls k _ _ l0 a1 t293 t294 true _ ?side1 ?side2 A3.out).mono ?_);(case side1=>repeat (first | exact HR0.out | (with_reducible refine cA_ ?_ _) | (with_reducible refine cN_ ?_ _) | (with_reducible refine cD_ ?_)));(case side2=>exact HC0.out);rintro e w' ⟨rfl,⟨nd,rfl⟩⟩;refine ⟨_,rfl,?_⟩))
   go_ret3
   exact ⟨by first | rfl | (simp;done) | (simp [*];done),by repeat (first | exact Drawn0.refl _ | apply Drawn0.step)⟩
  ·rw [if_neg c5] at H
   have c5b0 : decide ((wrap64 ((l0.length : Int) - t294)) < t293) = false:=decide_eq_false c5
   clear c5
   by_cases c6 : 0 ≤ t294
   ·rw [if_pos c6] at H
    have c6b0:=eq_true c6
    have c6b1 : decide (0 ≤ t294) = true:=decide_eq_true c6
    clear c6
    by_cases c7 : t294 ≤ (wrap64 (t294 + t293))
    ·rw [if_pos c7] at H
     have c7b0:=eq_true c7
     have c7b1 : decide (t294 ≤ (wrap64 (t294 + t293))) = true:=decide_eq_true c7
     by_cases c8 : (wrap64 (t294 + t293)) ≤ (l0.length : Int)
     ·rw [if_pos c8] at H
      have c8b0:=eq_true c8
      have c8b1 : decide ((wrap64 (t294 + t293)) ≤ (l0.length : Int)) = true:=decide_eq_true c8
      simp only [Option.some.injEq,Prod.mk.injEq] at H
      obtain ⟨rfl,rfl,rfl⟩:=H
      go_enter Try.func144,Try.ntmps144
      go_wp2_with (first | ((with_reducible refine gate_callee (f:=117) rfl ?_);refine goesL_ (some 13) rfl rfl Try.func117 (by kernel_rfl) rfl #[.slice A0 l0.length c0,.int .i64 a1] rfl (by (try simp only [mA_,mC_,mN_]);first | done | rfl | (simp only [lD_,lT_];rfl)) ?_;(with_reducible refine (spec_GetU.calls k _ _ l0 a1 t293 t294 true _ ?side1 ?side2 A3.out).mono ?_);(case side1=>repeat (first | exact HR0.out | (with_reducible refine cA_ ?_ _) | (with_reducible refine cN_ ?_ _) | (with_reducible refine cD_ ?_)));(case side2=>exact HC0.out);rintro e w' ⟨rfl,⟨nd,rfl⟩⟩;refine ⟨_,rfl,?_⟩;obtain ⟨i09,hi09,_,hsz9,_⟩:=info_parts info5;obtain ⟨A9,hcut9,hA9,hC9⟩:=print_mid_of (P:=Try.prog) (Value.int .u8) 0 27 5 .i64 .i64 Try.underlying27 hi09 hsz9 A0 c0 l0 t294 (wrap64 (t294 + t293)) (oT_ (by first | (with_reducible assumption) | assumption)) (by first | omega | exact oT_ (by first | (with_reducible assumption) | assumption)) (oT_ (by first | (with_reducible assumption) | assumption)) HC0.out;have HR296:=aM_ (Kd.C_of_reads (h1:=fun _=>rfl) (hA9 _ (Kd.reads_of_C HR0.out)));have HC296:=aM_ hC9;clear hA9 hC9 hi09 hsz9;have hcv10:=Kd.C_string (P:=Try.prog) (A:=A9) (c:=(c0 - t294.toNat)) Try.underlying27 Try.underlying5 Try.underlying9 HR296.out;have hcw297:=fun (n_ : Nat)=>Kd.C_string (P:=Try.prog) (A:=A9) (c:=(c0 - t294.toNat)) Try.underlying27 Try.underlying5 Try.underlying9 (cN_ (HR296.out) n_);simp only [lD_,lT_] at hcw297;have hcw297m : min ((wrap64 (t294 + t293)) : Int).toNat l0.length = ((wrap64 (t294 + t293)) : Int).toNat:=Nat.min_eq_left (by omega);have hcw297a:=hcw297;simp only [hcw297m] at hcw297a;clear hcw297m))
      go_ret3
      exact ⟨by first | rfl | (simp;done) | (simp [*];done),by repeat (first | exact Drawn0.refl _ | apply Drawn0.step)⟩
     ·rw [if_neg c8] at H
      exact absurd H (by simp)
    ·rw [if_neg c7] at H
     exact absurd H (by simp)
   ·rw [if_neg c6] at H
    exact absurd H (by simp)
 ·replace c4:=Bool.eq_false_iff.mpr c4
  subst c4
  have H1 : (some ((⟨#[]⟩ : ByteArray),0,false)) = some (r1,r2,r3):=by rw [if_neg (show ¬ (false = true) by decide)] at H;exact H
  clear H
  have H:=H1
  clear H1
  simp only [Option.some.injEq,Prod.mk.injEq] at H
  obtain ⟨rfl,rfl,rfl⟩:=H
  go_enter Try.func144,Try.ntmps144
  go_wp2_with (first | ((with_reducible refine gate_callee (f:=117) rfl ?_);refine goesL_ (some 13) rfl rfl Try.func117 (by kernel_rfl) rfl #[.slice A0 l0.length c0,.int .i64 a1] rfl (by (try simp only [mA_,mC_,mN_]);first | done | rfl | (simp only [lD_,lT_];rfl)) ?_;(with_reducible refine (spec_GetU.calls k _ _ l0 a1 t293 t294 false _ ?side1 ?side2 A3.out).mono ?_);(case side1=>repeat (first | exact HR0.out | (with_reducible refine cA_ ?_ _) | (with_reducible refine cN_ ?_ _) | (with_reducible refine cD_ ?_)));(case side2=>exact HC0.out);rintro e w' ⟨rfl,⟨nd,rfl⟩⟩;refine ⟨_,rfl,?_⟩))
  go_ret3
  exact ⟨by first | rfl | (simp;done) | (simp [*];done),by repeat (first | exact Drawn0.refl _ | apply Drawn0.step)⟩
def spec_l4Bytes.l0 : Nat → Int → List Int → Option (List Int)
 | 0,_,_=>none
 | k + 1,x0,x3=>if x0 > 0 then ((some (([(x0) % 256] : List Int) : List Int)).bind fun y301=>(if y301.length + x3.length < 140737488355328 then (spec_l4Bytes.l0 k (x0 / 256) (y301 ++ x3)) else (none))) else (some x3)
def spec_l4Bytes.f (k : Nat) (a0 : Int) : Option (List Int):=spec_l4Bytes.l0 k a0 (([] : List Int))
theorem spec_l4Bytes.mono_l : ∀ k,(∀ y0 y1,LeO (spec_l4Bytes.l0 k y0 y1) (spec_l4Bytes.l0 (k + 1) y0 y1))
 | 0=>fun _ _ r h=>by simp [spec_l4Bytes.l0] at h
 | k + 1=>by
  have ih0:=spec_l4Bytes.mono_l k
  ·intro y0 y1
   unfold spec_l4Bytes.l0
   repeat' first
   | (with_reducible exact ih0 _ _)
   | (with_reducible exact LeO.refl _)
   | (with_reducible exact LeO.none _)
   | (with_reducible refine LeO.ite ?_ ?_)
   | (with_reducible refine LeO.bind ?_ (fun _=>?_))
   | exact ih0 _ _
   | exact LeO.none _
   | refine LeO.ite ?_ ?_
   | refine LeO.bind ?_ (fun _=>?_)
theorem spec_l4Bytes.mono : ∀ a0 k,LeO (spec_l4Bytes.f k a0) (spec_l4Bytes.f (k + 1) a0):=by
 intro a0 k
 have ih0:=spec_l4Bytes.mono_l k
 unfold spec_l4Bytes.f
 repeat' first
   | (with_reducible exact ih0 _ _)
   | (with_reducible exact LeO.refl _)
   | (with_reducible exact LeO.none _)
   | (with_reducible refine LeO.ite ?_ ?_)
   | (with_reducible refine LeO.bind ?_ (fun _=>?_))
   | exact ih0 _ _
   | exact LeO.none _
   | refine LeO.ite ?_ ?_
   | refine LeO.bind ?_ (fun _=>?_)
set_option maxHeartbeats 8000000 in
set_option maxRecDepth 100000 in
theorem spec_l4Bytes.calls (k : Nat) (a0 : Int) (r : List Int) (w : World) (h : spec_l4Bytes.f k a0 = some r) :
  Calls Try.prog 146 #[.int .i64 a0] w fun e w'=>∃ v0_ : Value,e = .returned (v0_) ∧ Kd.R (Kd.int .u8) 5 w' w.heap.size (fun _=>True) v0_ r ∧ Below w.heap.size w w':=by
 have HB:=aM_ (Below.refl w.heap.size w)
 have H : (spec_l4Bytes.l0 k a0 (([] : List Int))) = some r:=h
 clear h
 obtain ⟨y298,hy298⟩ : ∃ y_ : List Int,y_ = (([] : List Int)):=⟨_,rfl⟩
 replace H : (spec_l4Bytes.l0 k a0 y298) = some r:=by first | (rw [hy298];with_reducible exact H) | (have H2_:=(Option.bind_some _ _).symm.trans H;rw [hy298];with_reducible exact H2_) | (have H2_:=(Option.bind_some _ _).symm.trans H;with_reducible exact H2_) | with_reducible exact H | (rw [hy298];exact H) | exact H
 have Ny298:=aM_ hy298
 clear hy298
 have H':=aM_ H
 clear H
 go_enter Try.func146,Try.ntmps146
 go_wp2_with (first | ((with_reducible refine gate_dst (N:=4) rfl ?_);refine Kd.R_lit (Kd.int .u8) _ 5 ?hg (N:=4) ?hd (xs:=([] : List Int)) (inner:=[]) (ok:=fun _=>True) (okp:=fun _=>True) ?hr ?hp (fun _ hk=>hk) trivial (Below.refl _ _) (Nat.le_refl _) (by simp) ?_;(case hd=>rfl);(case hg=>rfl);(case hr=>first | (go_simp;done) | (go_simp;rfl));(case hp=>exact (Reps.none _ _));intro v299 w2 ho3 hb hg_ hnew_;clear hg_ hnew_;(first | rw [← Ny298.out] at ho3 | (simp only [Int.reduceToNat] at ho3;rw [← Ny298.out] at ho3));have n0_:=aM_ (Kd.R_lower ho3 (bS_ (by exact bZ_ HB)));have n1_:=aM_ (bT_ (by exact bZ_ HB) hb);clear HB;have HO300:=n0_;have HB:=n1_;clear n0_ n1_;clear hb ho3))
 (try simp only [Act.put,sI_,sS_,sZ_])
 go_loopg [0,3] k (fun kq v0 v3 w'=>∃ (x0_1 : Int) (x3_1 : List Int),v0 = .int .i64 x0_1 ∧ Aside0 (spec_l4Bytes.l0 kq x0_1 x3_1 = some r) ∧ Aside0 (kq ≤ k) ∧ Aside0 (Kd.R (Kd.int .u8) 5 w' w.heap.size (fun _=>True) v3 x3_1) ∧ Aside0 (Below w.heap.size w w'))
 case atStart=>exact ⟨(a0),(y298),(by first | rfl | (simp;done) | (simp [*];done)),H', ⟨Nat.le_refl _⟩,⟨by exact rZ_ HO300⟩,⟨by exact bZ_ HB⟩⟩
 case round =>
  clear H'
  try clear c1
  try clear p2
  obtain ⟨x0_1,x3_1,rfl,HA,HK1,HO_3,HB⟩:=hrel
  cases gk with
  | zero=>exact absurd HA.out (by simp [spec_l4Bytes.l0])
  | succ k1 =>
   have H:=HA.out
   clear HA
   simp only [spec_l4Bytes.l0] at H
   by_cases c4 : x0_1 > 0
   ·rw [if_pos c4] at H
    have c4b0 : decide (0 < x0_1) = true:=decide_eq_true c4
    clear c4
    obtain ⟨y301,hy301⟩ : ∃ y_ : List Int,y_ = (([(x0_1) % 256] : List Int)):=⟨_,rfl⟩
    replace H : (if y301.length + x3_1.length < 140737488355328 then (spec_l4Bytes.l0 k1 (x0_1 / 256) (y301 ++ x3_1)) else (none)) = some r:=by first | (rw [hy301];with_reducible exact H) | (have H2_:=(Option.bind_some _ _).symm.trans H;rw [hy301];with_reducible exact H2_) | (have H2_:=(Option.bind_some _ _).symm.trans H;with_reducible exact H2_) | with_reducible exact H | (rw [hy301];exact H) | exact H
    have Ny301:=aM_ hy301
    clear hy301
    by_cases c5 : y301.length + x3_1.length < 140737488355328
    ·rw [if_pos c5] at H
     have LMc5:=aM_ c5
     clear c5
     obtain ⟨y304,hy304⟩ : ∃ y_ : List Int,y_ = (y301 ++ x3_1):=⟨_,rfl⟩
     replace H : (spec_l4Bytes.l0 k1 (x0_1 / 256) y304) = some r:=by first | (rw [hy304];with_reducible exact H) | (have H2_:=(Option.bind_some _ _).symm.trans H;rw [hy304];with_reducible exact H2_) | (have H2_:=(Option.bind_some _ _).symm.trans H;with_reducible exact H2_) | with_reducible exact H | (rw [hy304];exact H) | exact H
     have Ny304:=aM_ hy304
     clear hy304
     have H':=aM_ H
     clear H
     go_wp2_with (first | ((with_reducible refine gate_dst (N:=9) rfl ?_);refine Kd.R_lit (Kd.int .u8) _ 5 ?hg (N:=9) ?hd (xs:=([(x0_1) % 256] : List Int)) (inner:=[.int .u8 ((x0_1) % 256)]) (ok:=fun _=>True) (okp:=fun _=>True) ?hr ?hp (fun _ hk=>hk) trivial (Below.refl _ _) (Nat.le_refl _) (by simp) ?_;(case hd=>rfl);(case hg=>rfl);(case hr=>first | (go_simp;done) | (go_simp;rfl));(case hp=>exact (Reps.one (show Kd.M (Kd.int .u8) _ _ _ ((x0_1) % 256) [.int .u8 ((x0_1) % 256)] from rfl) (Reps.none _ _)));intro v302 w6 ho7 hb hg_ hnew_;clear hg_ hnew_;(first | rw [← Ny301.out] at ho7 | (simp only [Int.reduceToNat] at ho7;rw [← Ny301.out] at ho7));have n0_:=aM_ (Kd.R_elder' (by exact rZ_ HO_3) (Kd.R_base ho7) hb);have n1_:=aM_ (Kd.R_lower (Kd.R_new' ho7 (Kd.R_lt (by exact rZ_ HO_3))) (bS_ (by exact bZ_ HB)));have n2_:=aM_ (bT_ (by exact bZ_ HB) hb);clear HO_3;clear HB;have HO_3:=n0_;have HO303:=n1_;have HB:=n2_;clear n0_ n1_ n2_;clear hb ho7;obtain ⟨Ao9,co9,eo9⟩:=Kd.R_slice HO_3.out;subst eo9) | ((with_reducible refine gate_builtin (b:=.append) (xs:=#[.tmp 9,.tmp 10]) rfl ?_);at_builtin;refine Kd.R_append_rows (Kd.int .u8) (w0:=w) w.heap.size rfl (.tmp 9) (.tmp 10) 27 5 (.int .u8 0) 1 rfl Try.underlying27 info5 rfl (by decide) (by omega) v302 y301 x3_1 _ _ _ (fun k_=>some k_ ≠ (.slice Ao9 x3_1.length co9 : Value).ownBlock) (fun _=>False) rfl rfl ?aO ?aR (fun _ _ h=>h) (fun _ h=>h.elim) ?aF ?aB ?aS ?aL ?_;(case aR=>repeat (first | exact (Kd.R_reads' HO_3.out).2.2 | (with_reducible refine cA_ ?_ _) | (with_reducible refine cN_ ?_ _) | (with_reducible refine cD_ ?_)));(case aB=>exact (by exact bZ_ HB));(case aF=>exact (fun k_ hk=>Kd.fresh' (Kd.R_lt (by exact rZ_ HO_3)) k_ hk));(case aO=>exact (by (with_reducible repeat (first | apply rA_ | apply rN_ | apply rD_));exact Kd.R_mono HO303.out (fun _ hk=>hk.2)));(case aS=>exact (bS_ (by exact bZ_ HB)));(case aL=>have:=LMc5.out;omega);intro v305 w8 ho hb hg hat;rw [← Ny304.out] at ho;have n0_:=aM_ (Kd.R_after (ok:=(fun _=>True)) (by exact rZ_ HO_3) hg hat);have n1_:=aM_ (hb);have n2_:=aM_ (ho);clear HO_3;clear HB;clear HO303;have HO_3:=n0_;have HB:=n1_;have HO306:=n2_;clear n0_ n1_ n2_;clear ho hb hg hat))
     go_roundg k1
     case measure=>have:=HK1.out;omega
     case rel=>exact ⟨(x0_1 / 256),(y304),(by first | rfl | (simp;done) | (simp [*];done)),H', ⟨by have:=HK1.out;omega⟩,⟨by (with_reducible repeat (first | apply rA_ | apply rN_ | apply rD_));exact Kd.R_mono HO306.out (fun _ hk=>trivial)⟩,⟨by exact bZ_ HB⟩⟩
    ·rw [if_neg c5] at H
     exact absurd H (by simp)
   ·rw [if_neg c4] at H
    have c4b0 : decide (0 < x0_1) = false:=decide_eq_false c4
    clear c4
    obtain rfl:=Option.some.inj H
    go_wp2
    go_ret
    exact ⟨_,by first | rfl | (simp [errW_none,errW_some] <;> rfl) | (simp [*, errW_none,errW_some] <;> rfl),by exact rZ_ HO_3,by exact bZ_ HB⟩
def spec_Flip.l0 : Nat → Int → List Int → Int → Option (List Int)
 | 0,_,_,_=>none
 | k + 1,x1,x5,x6=>if x6 < (x5.length : Int) then (if x6 ≥ x1 then (if 0 ≤ x6 then (spec_Flip.l0 k x1 (x5.set (x6 : Int).toNat (Go.bits .xor .u8 255 (rd x5 x6))) (wrap64 (x6 + 1))) else (none)) else (spec_Flip.l0 k x1 x5 (wrap64 (x6 + 1)))) else (some x5)
def spec_Flip.f (k : Nat) (l0 : List Int) (a1 : Int) : Option (List Int):=(some (([] : List Int) : List Int)).bind fun y307=>(if y307.length + l0.length < 140737488355328 then (spec_Flip.l0 k a1 (y307 ++ l0) 0) else (none))
theorem spec_Flip.mono_l : ∀ k,(∀ y0 y1 y2,LeO (spec_Flip.l0 k y0 y1 y2) (spec_Flip.l0 (k + 1) y0 y1 y2))
 | 0=>fun _ _ _ r h=>by simp [spec_Flip.l0] at h
 | k + 1=>by
  have ih0:=spec_Flip.mono_l k
  ·intro y0 y1 y2
   unfold spec_Flip.l0
   repeat' first
   | (with_reducible exact ih0 _ _ _)
   | (with_reducible exact LeO.refl _)
   | (with_reducible exact LeO.none _)
   | (with_reducible refine LeO.ite ?_ ?_)
   | (with_reducible refine LeO.bind ?_ (fun _=>?_))
   | exact ih0 _ _ _
   | exact LeO.none _
   | refine LeO.ite ?_ ?_
   | refine LeO.bind ?_ (fun _=>?_)
theorem spec_Flip.mono : ∀ a0 a1 k,LeO (spec_Flip.f k a0 a1) (spec_Flip.f (k + 1) a0 a1):=by
 intro a0 a1 k
 have ih0:=spec_Flip.mono_l k
 unfold spec_Flip.f
 repeat' first
   | (with_reducible exact ih0 _ _ _)
   | (with_reducible exact LeO.refl _)
   | (with_reducible exact LeO.none _)
   | (with_reducible refine LeO.ite ?_ ?_)
   | (with_reducible refine LeO.bind ?_ (fun _=>?_))
   | exact ih0 _ _ _
   | exact LeO.none _
   | refine LeO.ite ?_ ?_
   | refine LeO.bind ?_ (fun _=>?_)
set_option maxHeartbeats 8000000 in
set_option maxRecDepth 100000 in
theorem spec_Flip.calls (k : Nat) (A0 : Option Addr) (c0 : Nat) (l0 : List Int) (a1 : Int) (r : List Int) (w : World) (hr0 : Kd.C (Kd.int .u8) w A0 l0.length l0) (hc0 : l0.length ≤ c0) (h : spec_Flip.f k l0 a1 = some r) :
  Calls Try.prog 147 #[.slice A0 l0.length c0,.int .i64 a1] w fun e w'=>∃ v0_ : Value,e = .returned (v0_) ∧ Kd.R (Kd.int .u8) 5 w' w.heap.size (fun _=>True) v0_ r ∧ Below w.heap.size w w':=by
 have HR0:=aM_ hr0
 have HC0:=aM_ hc0
 clear hr0 hc0
 have HB:=aM_ (Below.refl w.heap.size w)
 have H : ((some (([] : List Int) : List Int)).bind fun y307=>(if y307.length + l0.length < 140737488355328 then (spec_Flip.l0 k a1 (y307 ++ l0) 0) else (none))) = some r:=h
 clear h
 obtain ⟨y307,hy307⟩ : ∃ y_ : List Int,y_ = (([] : List Int)):=⟨_,rfl⟩
 replace H : (if y307.length + l0.length < 140737488355328 then (spec_Flip.l0 k a1 (y307 ++ l0) 0) else (none)) = some r:=by first | (rw [hy307];with_reducible exact H) | (have H2_:=(Option.bind_some _ _).symm.trans H;rw [hy307];with_reducible exact H2_) | (have H2_:=(Option.bind_some _ _).symm.trans H;with_reducible exact H2_) | with_reducible exact H | (rw [hy307];exact H) | exact H
 have Ny307:=aM_ hy307
 clear hy307
 by_cases c3 : y307.length + l0.length < 140737488355328
 ·rw [if_pos c3] at H
  have LMc3:=aM_ c3
  clear c3
  obtain ⟨y310,hy310⟩ : ∃ y_ : List Int,y_ = (y307 ++ l0):=⟨_,rfl⟩
  replace H : (spec_Flip.l0 k a1 y310 0) = some r:=by first | (rw [hy310];with_reducible exact H) | (have H2_:=(Option.bind_some _ _).symm.trans H;rw [hy310];with_reducible exact H2_) | (have H2_:=(Option.bind_some _ _).symm.trans H;with_reducible exact H2_) | with_reducible exact H | (rw [hy310];exact H) | exact H
  have Ny310:=aM_ hy310
  clear hy310
  have H':=aM_ H
  clear H
  go_enter Try.func147,Try.ntmps147
  go_wp2_with (first | ((with_reducible refine gate_dst (N:=7) rfl ?_);refine Kd.R_lit (Kd.int .u8) _ 5 ?hg (N:=7) ?hd (xs:=([] : List Int)) (inner:=[]) (ok:=fun _=>True) (okp:=fun _=>True) ?hr ?hp (fun _ hk=>hk) trivial (Below.refl _ _) (Nat.le_refl _) (by simp) ?_;(case hd=>rfl);(case hg=>rfl);(case hr=>first | (go_simp;done) | (go_simp;rfl));(case hp=>exact (Reps.none _ _));intro v308 w4 ho5 hb hg_ hnew_;clear hg_ hnew_;(first | rw [← Ny307.out] at ho5 | (simp only [Int.reduceToNat] at ho5;rw [← Ny307.out] at ho5));have n0_:=aM_ (Kd.R_lower ho5 (bS_ (by exact bZ_ HB)));have n1_:=aM_ (bT_ (by exact bZ_ HB) hb);clear HB;have HO309:=n0_;have HB:=n1_;clear n0_ n1_;clear hb ho5) | ((with_reducible refine gate_builtin (b:=.append) (xs:=#[.tmp 7,.tmp 8]) rfl ?_);at_builtin;refine Kd.R_append_rows (Kd.int .u8) (w0:=w) w.heap.size rfl (.tmp 7) (.tmp 8) 27 5 (.int .u8 0) 1 rfl Try.underlying27 info5 rfl (by decide) (by omega) v308 y307 l0 _ _ _ (fun _=>True) (fun _=>False) rfl rfl ?aO ?aR (fun _ _ h=>h) (fun _ h=>h.elim) ?aF ?aB ?aS ?aL ?_;(case aR=>repeat (first | exact (Kd.C_below HR0.out HB.out) | (with_reducible refine cA_ ?_ _) | (with_reducible refine cN_ ?_ _) | (with_reducible refine cD_ ?_)));(case aB=>exact (by exact bZ_ HB));(case aF=>exact (fun _ _=>trivial));(case aO=>exact (by exact rZ_ HO309));(case aS=>exact (bS_ (by exact bZ_ HB)));(case aL=>have:=LMc3.out;omega);intro v311 w6 ho hb hg hat;rw [← Ny310.out] at ho;have n0_:=aM_ (hb);have n1_:=aM_ (ho);clear HB;clear HO309;have HB:=n0_;have HO312:=n1_;clear n0_ n1_;clear ho hb hg hat))
  (try simp only [Act.put,sI_,sS_,sZ_])
  go_loopg [6] k (fun kq v6 w'=>∃ (x5_1 : List Int) (x6_1 : Int),v6 = .int .i64 x6_1 ∧ Aside0 (spec_Flip.l0 kq a1 x5_1 x6_1 = some r) ∧ Aside0 (kq ≤ k) ∧ Aside0 (Kd.R (Kd.int .u8) 5 w' w.heap.size (fun _=>True) v311 x5_1) ∧ Aside0 (Below w.heap.size w w'))
  case atStart=>exact ⟨(y310),(0),(by first | rfl | (simp;done) | (simp [*];done)),H', ⟨Nat.le_refl _⟩,⟨by exact rZ_ HO312⟩,⟨by exact bZ_ HB⟩⟩
  case round =>
   clear H'
   try clear c1
   try clear p2
   try clear c3
   obtain ⟨x5_1,x6_1,rfl,HA,HK1,HO_5,HB⟩:=hrel
   cases gk with
   | zero=>exact absurd HA.out (by simp [spec_Flip.l0])
   | succ k1 =>
    have H:=HA.out
    clear HA
    simp only [spec_Flip.l0] at H
    by_cases c7 : x6_1 < (x5_1.length : Int)
    ·rw [if_pos c7] at H
     have c7b0 : decide (x6_1 < (x5_1.length : Int)) = true:=decide_eq_true c7
     clear c7
     by_cases c8 : x6_1 ≥ a1
     ·rw [if_pos c8] at H
      have c8b0 : decide (a1 ≤ x6_1) = true:=decide_eq_true c8
      clear c8
      by_cases c9 : 0 ≤ x6_1
      ·rw [if_pos c9] at H
       have c9b0 : decide (0 ≤ x6_1) = true:=decide_eq_true c9
       clear c9
       obtain ⟨y314,hy314⟩ : ∃ y_ : List Int,y_ = (x5_1.set (x6_1 : Int).toNat (Go.bits .xor .u8 255 (rd x5_1 x6_1))):=⟨_,rfl⟩
       replace H : (spec_Flip.l0 k1 a1 y314 (wrap64 (x6_1 + 1))) = some r:=by first | (rw [hy314];with_reducible exact H) | (have H2_:=(Option.bind_some _ _).symm.trans H;rw [hy314];with_reducible exact H2_) | (have H2_:=(Option.bind_some _ _).symm.trans H;with_reducible exact H2_) | with_reducible exact H | (rw [hy314];exact H) | exact H
       have Ny314:=aM_ hy314
       clear hy314
       have H':=aM_ H
       clear H
       obtain ⟨Ao11,co11,eo11⟩:=Kd.R_slice HO_5.out
       subst eo11
       have p313 : 0 ≤ (x6_1 : Int):=oT_ (by first | (with_reducible assumption) | assumption)
       have q313 : x6_1 < (x5_1.length : Int):=oT_ (by first | (with_reducible assumption) | assumption)
       obtain ⟨ad313,e313,hx313_0⟩:=Kd.at_int (Kd.R_reads' HO_5.out).2.2 x6_1 p313 q313
       cases e313
       replace p313:=eq_true p313
       replace q313:=eq_true q313
       have p10 : 0 ≤ (x6_1 : Int):=oT_ (by first | (with_reducible assumption) | assumption)
       have q10 : (x6_1 : Int) < ((x5_1.length : Int) : Int):=oT_ (by first | (with_reducible assumption) | assumption)
       obtain ⟨go10,co10,eo10,gb10,gl10,cl10,HG10⟩:=Kd.R_form HO_5.out (by omega)
       (first | cases eo10 | (injection eo10 with ea_ en_ ec_;(first | subst ea_ | (injection ea_ with ea_;subst ea_));subst ec_;clear en_))
       have GB10:=aM_ gb10
       have GG10:=aM_ HG10
       clear gb10 gl10 HG10
       (first | simp only [add_plain] at hx313_0 | skip)
       obtain ⟨hx10_0,hf10_0⟩:=Kd.R_celln 0 HO_5.out (x6_1 : Int) p10 q10
       replace p10:=eq_true p10
       replace q10:=eq_true q10
       have HP12:=Kd.R_putg HO_5.out (x6_1 : Int) (Go.bits .xor .u8 255 (rd x5_1 x6_1))
       go_wp2_with (first | ((with_reducible refine gate_store (t:=5) (p:=26) rfl ?_);refine store_event (t:=5) (p:=26) (v:=?vo_w13) (w1:=(wr.setCell ⟨go10,(x6_1 : Int).toNat,none⟩ (.int .u8 (Go.bits .xor .u8 255 (rd x5_1 x6_1))))) ?hg ?ho ?hn ?hr ?_;(case ho=>rfl);(case hg=>rfl);(case hn=>rfl);(case hr=>first | (go_simp;done) | (go_simp;rfl));intro w13 hw;have hg : wr.grownBy w13 (some go10):=(by rw [hw];exact HP12.2);have hp_ : Kd.R (Kd.int .u8) 5 w13 w.heap.size (fun _=>True) (.slice (some ⟨go10,0,none⟩) x5_1.length co11) y314:=(by rw [hw,Ny314.out];exact HP12.1);clear HP12;have n0_:=aM_ (hp_);have n1_:=aM_ ((by rw [hw];exact bE_ (HB.out) GB10.out : Below w.heap.size w w13));clear HO_5;clear HB;have HO_5:=n0_;have HB:=n1_;clear n0_ n1_;clear hg hw hp_))
       go_roundg k1
       case measure=>have:=HK1.out;omega
       case rel=>exact ⟨(y314),(wrap64 (x6_1 + 1)),(by first | rfl | (simp;done) | (simp [*];done)),H', ⟨by have:=HK1.out;omega⟩,⟨by exact rZ_ HO_5⟩,⟨by exact bZ_ HB⟩⟩
      ·rw [if_neg c9] at H
       exact absurd H (by simp)
     ·rw [if_neg c8] at H
      have c8b0 : decide (a1 ≤ x6_1) = false:=decide_eq_false c8
      clear c8
      have H':=aM_ H
      clear H
      obtain ⟨Ao14,co14,eo14⟩:=Kd.R_slice HO_5.out
      subst eo14
      go_wp2
      go_roundg k1
      case measure=>have:=HK1.out;omega
      case rel=>exact ⟨(x5_1),(wrap64 (x6_1 + 1)),(by first | rfl | (simp;done) | (simp [*];done)),H', ⟨by have:=HK1.out;omega⟩,⟨by exact rZ_ HO_5⟩,⟨by exact bZ_ HB⟩⟩
    ·rw [if_neg c7] at H
     have c7b0 : decide (x6_1 < (x5_1.length : Int)) = false:=decide_eq_false c7
     clear c7
     obtain rfl:=Option.some.inj H
     obtain ⟨Ao15,co15,eo15⟩:=Kd.R_slice HO_5.out
     subst eo15
     go_wp2
     go_ret
     exact ⟨_,by first | rfl | (simp [errW_none,errW_some] <;> rfl) | (simp [*, errW_none,errW_some] <;> rfl),by exact rZ_ HO_5,by exact bZ_ HB⟩
 ·rw [if_neg c3] at H
  exact absurd H (by simp)
mutual
def spec_PutVar.j0 : Nat → List Int → Int → Option (List Int)
 | 0,_,_=>none
 | k + 1,x0,x1=>if x1 < (-1000000000000000) then (spec_PutVar.j1 k x0 (-1000000000000000)) else (spec_PutVar.j1 k x0 x1)
def spec_PutVar.j1 : Nat → List Int → Int → Option (List Int)
 | 0,_,_=>none
 | k + 1,x0,x1=>if x1 ≥ 0 then ((spec_l4Bytes.f k x1).bind fun t315=>((some (([] : List Int) : List Int)).bind fun y318=>(if y318.length + x0.length < 140737488355328 then ((some (y318 ++ x0 : List Int)).bind fun y321=>(if y321.length < 140737488355328 then ((some (y321 ++ [(wrap64 (128 + (t315.length : Int))) % 256] : List Int)).bind fun y324=>(if y324.length + t315.length < 140737488355328 then (some (y324 ++ t315)) else (none))) else (none))) else (none)))) else ((spec_l4Bytes.f k (wrap64 ((-1) - x1))).bind fun t330=>((some (([] : List Int) : List Int)).bind fun y333=>(if y333.length + x0.length < 140737488355328 then ((some (y333 ++ x0 : List Int)).bind fun y336=>(if y336.length < 140737488355328 then ((some (y336 ++ [(wrap64 (127 - (t330.length : Int))) % 256] : List Int)).bind fun y339=>((spec_Flip.f k t330 0).bind fun t342=>(if y339.length + t342.length < 140737488355328 then (some (y339 ++ t342)) else (none)))) else (none))) else (none))))
end
def spec_PutVar.f (k : Nat) (l0 : List Int) (a1 : Int) : Option (List Int):=if a1 > 1000000000000000 then (spec_PutVar.j0 k l0 1000000000000000) else (spec_PutVar.j0 k l0 a1)
theorem spec_PutVar.mono_l : ∀ k,(∀ y0 y1,LeO (spec_PutVar.j0 k y0 y1) (spec_PutVar.j0 (k + 1) y0 y1)) ∧ (∀ y0 y1,LeO (spec_PutVar.j1 k y0 y1) (spec_PutVar.j1 (k + 1) y0 y1))
 | 0=>⟨fun _ _ r h=>by simp [spec_PutVar.j0] at h,fun _ _ r h=>by simp [spec_PutVar.j1] at h⟩
 | k + 1=>by
  obtain ⟨ih0,ih1⟩:=spec_PutVar.mono_l k
  refine ⟨?_,?_⟩
  ·intro y0 y1
   unfold spec_PutVar.j0
   repeat' first
   | (with_reducible exact ih0 _ _)
   | (with_reducible exact ih1 _ _)
   | (with_reducible exact spec_Flip.mono _ _ _)
   | (with_reducible exact spec_l4Bytes.mono _ _)
   | (with_reducible exact LeO.refl _)
   | (with_reducible exact LeO.none _)
   | (with_reducible refine LeO.ite ?_ ?_)
   | (with_reducible refine LeO.bind ?_ (fun _=>?_))
   | exact ih0 _ _
   | exact ih1 _ _
   | exact spec_Flip.mono _ _ _
   | exact spec_l4Bytes.mono _ _
   | exact LeO.none _
   | refine LeO.ite ?_ ?_
   | refine LeO.bind ?_ (fun _=>?_)
  ·intro y0 y1
   unfold spec_PutVar.j1
   repeat' first
   | (with_reducible exact ih0 _ _)
   | (with_reducible exact ih1 _ _)
   | (with_reducible exact spec_Flip.mono _ _ _)
   | (with_reducible exact spec_l4Bytes.mono _ _)
   | (with_reducible exact LeO.refl _)
   | (with_reducible exact LeO.none _)
   | (with_reducible refine LeO.ite ?_ ?_)
   | (with_reducible refine LeO.bind ?_ (fun _=>?_))
   | exact ih0 _ _
   | exact ih1 _ _
   | exact spec_Flip.mono _ _ _
   | exact spec_l4Bytes.mono _ _
   | exact LeO.none _
   | refine LeO.ite ?_ ?_
   | refine LeO.bind ?_ (fun _=>?_)
theorem spec_PutVar.mono : ∀ a0 a1 k,LeO (spec_PutVar.f k a0 a1) (spec_PutVar.f (k + 1) a0 a1):=by
 intro a0 a1 k
 obtain ⟨ih0,ih1⟩:=spec_PutVar.mono_l k
 unfold spec_PutVar.f
 repeat' first
   | (with_reducible exact ih0 _ _)
   | (with_reducible exact ih1 _ _)
   | (with_reducible exact spec_Flip.mono _ _ _)
   | (with_reducible exact spec_l4Bytes.mono _ _)
   | (with_reducible exact LeO.refl _)
   | (with_reducible exact LeO.none _)
   | (with_reducible refine LeO.ite ?_ ?_)
   | (with_reducible refine LeO.bind ?_ (fun _=>?_))
   | exact ih0 _ _
   | exact ih1 _ _
   | exact spec_Flip.mono _ _ _
   | exact spec_l4Bytes.mono _ _
   | exact LeO.none _
   | refine LeO.ite ?_ ?_
   | refine LeO.bind ?_ (fun _=>?_)
set_option maxHeartbeats 8000000 in
set_option maxRecDepth 100000 in
theorem spec_PutVar.calls (k : Nat) (A0 : Option Addr) (c0 : Nat) (l0 : List Int) (a1 : Int) (r : List Int) (w : World) (hr0 : Kd.C (Kd.int .u8) w A0 l0.length l0) (hc0 : l0.length ≤ c0) (h : spec_PutVar.f k l0 a1 = some r) :
  Calls Try.prog 94 #[.slice A0 l0.length c0,.int .i64 a1] w fun e w'=>∃ v0_ : Value,e = .returned (v0_) ∧ Kd.R (Kd.int .u8) 5 w' w.heap.size (fun _=>True) v0_ r ∧ Below w.heap.size w w':=by
 have HR0:=aM_ hr0
 have HC0:=aM_ hc0
 clear hr0 hc0
 have HB:=aM_ (Below.refl w.heap.size w)
 have H : (if a1 > 1000000000000000 then (spec_PutVar.j0 k l0 1000000000000000) else (spec_PutVar.j0 k l0 a1)) = some r:=h
 clear h
 have HC3:=aM_ H
 clear H
 go_enter Try.func94,Try.ntmps94
 go_upto_if 8 with (fail)
 go_cut [1] (fun v1 wc=>∃ (kq : Nat) (x1_2 : Int),v1 = .int .i64 x1_2 ∧ Aside0 (spec_PutVar.j0 kq l0 x1_2 = some r) ∧ Aside0 (kq ≤ k) ∧ Aside0 (Below w.heap.size w wc))
 case first =>
  have H:=HC3.out
  clear HC3
  by_cases c4 : a1 > 1000000000000000
  ·rw [if_pos c4] at H
   have c4b0 : decide (1000000000000000 < a1) = true:=decide_eq_true c4
   clear c4
   (first | rw [c4b0] | (simp only [i64_w,i32_w];rw [c4b0]) | skip)
   have H':=aM_ H
   clear H
   go_wp2
   (first | go_meet | (refine Met.intro ?_;go_step;(repeat apply Exists.intro);refine ⟨?rel,?eq⟩;(case eq=>(try simp only [c4b0]);(try simp only [c4b0]);(try simp only [c4b0]);rfl)))
   case rel=>exact ⟨_,(1000000000000000),(by first | rfl | (simp;done) | (simp [*];done)),H', ⟨by first | omega | exact Nat.le_refl _⟩,⟨by exact bZ_ HB⟩⟩
  ·rw [if_neg c4] at H
   have c4b0 : decide (1000000000000000 < a1) = false:=decide_eq_false c4
   clear c4
   (first | rw [c4b0] | (simp only [i64_w,i32_w];rw [c4b0]) | skip)
   have H':=aM_ H
   clear H
   go_wp2
   (first | go_meet | (refine Met.intro ?_;go_step;(repeat apply Exists.intro);refine ⟨?rel,?eq⟩;(case eq=>(try simp only [c4b0]);(try simp only [c4b0]);(try simp only [c4b0]);rfl)))
   case rel=>exact ⟨_,(a1),(by first | rfl | (simp;done) | (simp [*];done)),H', ⟨by first | omega | exact Nat.le_refl _⟩,⟨by exact bZ_ HB⟩⟩
 case rest =>
  clear HC3
  try clear p2
  try clear c4
  try clear c4b0
  obtain ⟨kq,x1_2,rfl,HA,HJ2,HB⟩:=hcut
  cases kq with
  | zero=>exact absurd HA.out (by simp [spec_PutVar.j0])
  | succ kj2 =>
   have H:=HA.out
   clear HA
   simp only [spec_PutVar.j0] at H
   have HC5:=aM_ H
   clear H
   go_upto_if 10 with (fail)
   go_cut [1] (fun v1 wc=>∃ (kq : Nat) (x1_4 : Int),v1 = .int .i64 x1_4 ∧ Aside0 (spec_PutVar.j1 kq l0 x1_4 = some r) ∧ Aside0 (kq ≤ kj2) ∧ Aside0 (Below w.heap.size w wc))
   case first =>
    have H:=HC5.out
    clear HC5
    by_cases c6 : x1_2 < (-1000000000000000)
    ·rw [if_pos c6] at H
     have c6b0 : decide (x1_2 < (-1000000000000000)) = true:=decide_eq_true c6
     clear c6
     (first | rw [c6b0] | (simp only [i64_w,i32_w];rw [c6b0]) | skip)
     have H':=aM_ H
     clear H
     go_wp2
     (first | go_meet | (refine Met.intro ?_;go_step;(repeat apply Exists.intro);refine ⟨?rel,?eq⟩;(case eq=>(try simp only [c4b0]);(try simp only [c4b0]);(try simp only [c6b0]);rfl)))
     case rel=>exact ⟨_,((-1000000000000000)),(by first | rfl | (simp;done) | (simp [*];done)),H', ⟨by have:=HJ2.out;first | omega | exact Nat.le_refl _⟩,⟨by exact bZ_ HB⟩⟩
    ·rw [if_neg c6] at H
     have c6b0 : decide (x1_2 < (-1000000000000000)) = false:=decide_eq_false c6
     clear c6
     (first | rw [c6b0] | (simp only [i64_w,i32_w];rw [c6b0]) | skip)
     have H':=aM_ H
     clear H
     go_wp2
     (first | go_meet | (refine Met.intro ?_;go_step;(repeat apply Exists.intro);refine ⟨?rel,?eq⟩;(case eq=>(try simp only [c4b0]);(try simp only [c6b0]);(try simp only [c6b0]);rfl)))
     case rel=>exact ⟨_,(x1_2),(by first | rfl | (simp;done) | (simp [*];done)),H', ⟨by have:=HJ2.out;first | omega | exact Nat.le_refl _⟩,⟨by exact bZ_ HB⟩⟩
   case rest =>
    clear HC5
    try clear p2
    try clear c4
    try clear c4b0
    try clear c6
    try clear c6b0
    try clear p2
    obtain ⟨kq,x1_4,rfl,HA,HJ4,HB⟩:=hcut
    cases kq with
    | zero=>exact absurd HA.out (by simp [spec_PutVar.j1])
    | succ kj4 =>
     have H:=HA.out
     clear HA
     simp only [spec_PutVar.j1] at H
     by_cases c7 : x1_4 ≥ 0
     ·rw [if_pos c7] at H
      have c7b0 : decide (0 ≤ x1_4) = true:=decide_eq_true c7
      clear c7
      replace H:=oB_ H
      obtain ⟨t315,A80,H⟩:=H
      replace H : ((some (([] : List Int) : List Int)).bind fun y318=>(if y318.length + l0.length < 140737488355328 then ((some (y318 ++ l0 : List Int)).bind fun y321=>(if y321.length < 140737488355328 then ((some (y321 ++ [(wrap64 (128 + (t315.length : Int))) % 256] : List Int)).bind fun y324=>(if y324.length + t315.length < 140737488355328 then (some (y324 ++ t315)) else (none))) else (none))) else (none))) = some r:=H
      have A8:=aM_ A80
      clear A80
      obtain ⟨y318,hy318⟩ : ∃ y_ : List Int,y_ = (([] : List Int)):=⟨_,rfl⟩
      replace H : (if y318.length + l0.length < 140737488355328 then ((some (y318 ++ l0 : List Int)).bind fun y321=>(if y321.length < 140737488355328 then ((some (y321 ++ [(wrap64 (128 + (t315.length : Int))) % 256] : List Int)).bind fun y324=>(if y324.length + t315.length < 140737488355328 then (some (y324 ++ t315)) else (none))) else (none))) else (none)) = some r:=by first | (rw [hy318];with_reducible exact H) | (have H2_:=(Option.bind_some _ _).symm.trans H;rw [hy318];with_reducible exact H2_) | (have H2_:=(Option.bind_some _ _).symm.trans H;with_reducible exact H2_) | with_reducible exact H | (rw [hy318];exact H) | exact H
      have Ny318:=aM_ hy318
      clear hy318
      by_cases c9 : y318.length + l0.length < 140737488355328
      ·rw [if_pos c9] at H
       have LMc9:=aM_ c9
       clear c9
       obtain ⟨y321,hy321⟩ : ∃ y_ : List Int,y_ = (y318 ++ l0):=⟨_,rfl⟩
       replace H : (if y321.length < 140737488355328 then ((some (y321 ++ [(wrap64 (128 + (t315.length : Int))) % 256] : List Int)).bind fun y324=>(if y324.length + t315.length < 140737488355328 then (some (y324 ++ t315)) else (none))) else (none)) = some r:=by first | (rw [hy321];with_reducible exact H) | (have H2_:=(Option.bind_some _ _).symm.trans H;rw [hy321];with_reducible exact H2_) | (have H2_:=(Option.bind_some _ _).symm.trans H;with_reducible exact H2_) | with_reducible exact H | (rw [hy321];exact H) | exact H
       have Ny321:=aM_ hy321
       clear hy321
       by_cases c10 : y321.length < 140737488355328
       ·rw [if_pos c10] at H
        have LMc10:=aM_ c10
        clear c10
        obtain ⟨y324,hy324⟩ : ∃ y_ : List Int,y_ = (y321 ++ [(wrap64 (128 + (t315.length : Int))) % 256]):=⟨_,rfl⟩
        replace H : (if y324.length + t315.length < 140737488355328 then (some (y324 ++ t315)) else (none)) = some r:=by first | (rw [hy324];with_reducible exact H) | (have H2_:=(Option.bind_some _ _).symm.trans H;rw [hy324];with_reducible exact H2_) | (have H2_:=(Option.bind_some _ _).symm.trans H;with_reducible exact H2_) | with_reducible exact H | (rw [hy324];exact H) | exact H
        have Ny324:=aM_ hy324
        clear hy324
        by_cases c11 : y324.length + t315.length < 140737488355328
        ·rw [if_pos c11] at H
         have LMc11:=aM_ c11
         clear c11
         obtain ⟨y327,hy327⟩ : ∃ y_ : List Int,y_ = (y324 ++ t315):=⟨_,rfl⟩
         replace H : (some y327) = some r:=by first | (rw [hy327];with_reducible exact H) | (have H2_:=(Option.bind_some _ _).symm.trans H;rw [hy327];with_reducible exact H2_) | (have H2_:=(Option.bind_some _ _).symm.trans H;with_reducible exact H2_) | with_reducible exact H | (rw [hy327];exact H) | exact H
         have Ny327:=aM_ hy327
         clear hy327
         obtain rfl:=Option.some.inj H
         go_wp2_with (first | ((with_reducible refine gate_callee (f:=146) rfl ?_);refine goesL_ (some 14) rfl rfl Try.func146 (by kernel_rfl) rfl #[.int .i64 x1_4] rfl (by (try simp only [mA_,mC_,mN_]);first | done | rfl | (simp only [lD_,lT_];rfl)) ?_;(with_reducible refine (spec_l4Bytes.calls kj4 x1_4 t315 _ A8.out).mono ?_);rintro e w12 ⟨v316,rfl,ho0,hb⟩;refine ⟨_,rfl,?_⟩;have n0_:=aM_ (Kd.R_lower ho0 (bS_ (by exact bZ_ HB)));have n1_:=aM_ (bT_ (by exact bZ_ HB) hb);clear HB;have HO317:=n0_;have HB:=n1_;clear n0_ n1_;(try clear hb);(try clear hb2);(try clear hk);(try clear hi);(try clear ho0)) | ((with_reducible refine gate_dst (N:=15) rfl ?_);refine Kd.R_lit (Kd.int .u8) _ 5 ?hg (N:=15) ?hd (xs:=([] : List Int)) (inner:=[]) (ok:=fun _=>True) (okp:=fun _=>True) ?hr ?hp (fun _ hk=>hk) trivial (Below.refl _ _) (Nat.le_refl _) (by simp) ?_;(case hd=>rfl);(case hg=>rfl);(case hr=>first | (go_simp;done) | (go_simp;rfl));(case hp=>exact (Reps.none _ _));intro v319 w13 ho14 hb hg_ hnew_;clear hg_ hnew_;(first | rw [← Ny318.out] at ho14 | (simp only [Int.reduceToNat] at ho14;rw [← Ny318.out] at ho14));have n0_:=aM_ (Kd.R_elder' (by exact rZ_ HO317) (Kd.R_base ho14) hb);have n1_:=aM_ (Kd.R_lower (Kd.R_new' ho14 (Kd.R_lt (by exact rZ_ HO317))) (bS_ (by exact bZ_ HB)));have n2_:=aM_ (bT_ (by exact bZ_ HB) hb);clear HO317;clear HB;have HO317:=n0_;have HO320:=n1_;have HB:=n2_;clear n0_ n1_ n2_;clear hb ho14) | ((with_reducible refine gate_builtin (b:=.append) (xs:=#[.tmp 15,.tmp 16]) rfl ?_);at_builtin;refine Kd.R_append_rows (Kd.int .u8) (w0:=w) w.heap.size rfl (.tmp 15) (.tmp 16) 27 5 (.int .u8 0) 1 rfl Try.underlying27 info5 rfl (by decide) (by omega) v319 y318 l0 _ _ _ (fun k_=>some k_ ≠ (v316 : Value).ownBlock) (fun _=>False) rfl rfl ?aO ?aR (fun _ _ h=>h) (fun _ h=>h.elim) ?aF ?aB ?aS ?aL ?_;(case aR=>repeat (first | exact (Kd.C_below HR0.out HB.out) | (with_reducible refine cA_ ?_ _) | (with_reducible refine cN_ ?_ _) | (with_reducible refine cD_ ?_)));(case aB=>exact (by exact bZ_ HB));(case aF=>exact (fun k_ hk=>Kd.fresh' (Kd.R_lt (by exact rZ_ HO317)) k_ hk));(case aO=>exact (by (with_reducible repeat (first | apply rA_ | apply rN_ | apply rD_));exact Kd.R_mono HO320.out (fun _ hk=>hk.2)));(case aS=>exact (bS_ (by exact bZ_ HB)));(case aL=>have:=LMc9.out;omega);intro v322 w15 ho hb hg hat;rw [← Ny321.out] at ho;have n0_:=aM_ (Kd.R_after (ok:=(fun _=>True)) (by exact rZ_ HO317) hg hat);have n1_:=aM_ (hb);have n2_:=aM_ (ho);clear HO317;clear HB;clear HO320;have HO317:=n0_;have HB:=n1_;have HO323:=n2_;clear n0_ n1_ n2_;clear ho hb hg hat;obtain ⟨Ao16,co16,eo16⟩:=Kd.R_slice HO317.out;subst eo16) | ((with_reducible refine gate_builtin (b:=.append) (xs:=#[.tmp 17,.tmp 22]) rfl ?_);at_builtin;refine Kd.R_append (Kd.int .u8) (w0:=w) w.heap.size rfl (.tmp 17) (.tmp 22) 27 5 (.int .u8 0) 1 rfl Try.underlying27 info5 rfl (by decide) (by omega) v322 y321 ((wrap64 (128 + (t315.length : Int))) % 256) [.int .u8 ((wrap64 (128 + (t315.length : Int))) % 256)] (fun k_=>some k_ ≠ (.slice Ao16 t315.length co16 : Value).ownBlock) (fun _=>False) rfl rfl ?aP (fun _ hk=>hk.elim) ?aF ?aO ?aB ?aS ?aL ?_;(case aP=>exact rfl);(case aB=>exact (by exact bZ_ HB));(case aF=>exact (fun k_ hk=>Kd.fresh' (Kd.R_lt (by exact rZ_ HO317)) k_ hk));(case aO=>exact (by exact rZ_ HO323));(case aS=>exact (bS_ (by exact bZ_ HB)));(case aL=>have:=LMc10.out;omega);intro v325 w17 ho hb hg hat;rw [← Ny324.out] at ho;have n0_:=aM_ (Kd.R_after (ok:=(fun _=>True)) (by exact rZ_ HO317) hg hat);have n1_:=aM_ (hb);have n2_:=aM_ (ho);clear HO317;clear HB;clear HO323;have HO317:=n0_;have HB:=n1_;have HO326:=n2_;clear n0_ n1_ n2_;clear ho hb hg hat) | ((with_reducible refine gate_builtin (b:=.append) (xs:=#[.tmp 23,.tmp 24]) rfl ?_);at_builtin;refine Kd.R_append_rows (Kd.int .u8) (w0:=w) w.heap.size rfl (.tmp 23) (.tmp 24) 27 5 (.int .u8 0) 1 rfl Try.underlying27 info5 rfl (by decide) (by omega) v325 y324 t315 _ _ _ (fun k_=>some k_ ≠ (.slice Ao16 t315.length co16 : Value).ownBlock) (fun _=>False) rfl rfl ?aO ?aR (fun _ _ h=>h) (fun _ h=>h.elim) ?aF ?aB ?aS ?aL ?_;(case aR=>repeat (first | exact (Kd.R_reads' HO317.out).2.2 | (with_reducible refine cA_ ?_ _) | (with_reducible refine cN_ ?_ _) | (with_reducible refine cD_ ?_)));(case aB=>exact (by exact bZ_ HB));(case aF=>exact (fun k_ hk=>Kd.fresh' (Kd.R_lt (by exact rZ_ HO317)) k_ hk));(case aO=>exact (by exact rZ_ HO326));(case aS=>exact (bS_ (by exact bZ_ HB)));(case aL=>have:=LMc11.out;omega);intro v328 w18 ho hb hg hat;rw [← Ny327.out] at ho;have n0_:=aM_ (Kd.R_after (ok:=(fun _=>True)) (by exact rZ_ HO317) hg hat);have n1_:=aM_ (hb);have n2_:=aM_ (ho);clear HO317;clear HB;clear HO326;have HO317:=n0_;have HB:=n1_;have HO329:=n2_;clear n0_ n1_ n2_;clear ho hb hg hat))
         go_ret
         exact ⟨_,by first | rfl | (simp [errW_none,errW_some] <;> rfl) | (simp [*, errW_none,errW_some] <;> rfl),by (with_reducible repeat (first | apply rA_ | apply rN_ | apply rD_));exact Kd.R_mono HO329.out (fun _ hk=>trivial),by exact bZ_ HB⟩
        ·rw [if_neg c11] at H
         exact absurd H (by simp)
       ·rw [if_neg c10] at H
        exact absurd H (by simp)
      ·rw [if_neg c9] at H
       exact absurd H (by simp)
     ·rw [if_neg c7] at H
      have c7b0 : decide (0 ≤ x1_4) = false:=decide_eq_false c7
      clear c7
      replace H:=oB_ H
      obtain ⟨t330,A190,H⟩:=H
      replace H : ((some (([] : List Int) : List Int)).bind fun y333=>(if y333.length + l0.length < 140737488355328 then ((some (y333 ++ l0 : List Int)).bind fun y336=>(if y336.length < 140737488355328 then ((some (y336 ++ [(wrap64 (127 - (t330.length : Int))) % 256] : List Int)).bind fun y339=>((spec_Flip.f kj4 t330 0).bind fun t342=>(if y339.length + t342.length < 140737488355328 then (some (y339 ++ t342)) else (none)))) else (none))) else (none))) = some r:=H
      have A19:=aM_ A190
      clear A190
      obtain ⟨y333,hy333⟩ : ∃ y_ : List Int,y_ = (([] : List Int)):=⟨_,rfl⟩
      replace H : (if y333.length + l0.length < 140737488355328 then ((some (y333 ++ l0 : List Int)).bind fun y336=>(if y336.length < 140737488355328 then ((some (y336 ++ [(wrap64 (127 - (t330.length : Int))) % 256] : List Int)).bind fun y339=>((spec_Flip.f kj4 t330 0).bind fun t342=>(if y339.length + t342.length < 140737488355328 then (some (y339 ++ t342)) else (none)))) else (none))) else (none)) = some r:=by first | (rw [hy333];with_reducible exact H) | (have H2_:=(Option.bind_some _ _).symm.trans H;rw [hy333];with_reducible exact H2_) | (have H2_:=(Option.bind_some _ _).symm.trans H;with_reducible exact H2_) | with_reducible exact H | (rw [hy333];exact H) | exact H
      have Ny333:=aM_ hy333
      clear hy333
      by_cases c20 : y333.length + l0.length < 140737488355328
      ·rw [if_pos c20] at H
       have LMc20:=aM_ c20
       clear c20
       obtain ⟨y336,hy336⟩ : ∃ y_ : List Int,y_ = (y333 ++ l0):=⟨_,rfl⟩
       replace H : (if y336.length < 140737488355328 then ((some (y336 ++ [(wrap64 (127 - (t330.length : Int))) % 256] : List Int)).bind fun y339=>((spec_Flip.f kj4 t330 0).bind fun t342=>(if y339.length + t342.length < 140737488355328 then (some (y339 ++ t342)) else (none)))) else (none)) = some r:=by first | (rw [hy336];with_reducible exact H) | (have H2_:=(Option.bind_some _ _).symm.trans H;rw [hy336];with_reducible exact H2_) | (have H2_:=(Option.bind_some _ _).symm.trans H;with_reducible exact H2_) | with_reducible exact H | (rw [hy336];exact H) | exact H
       have Ny336:=aM_ hy336
       clear hy336
       by_cases c21 : y336.length < 140737488355328
       ·rw [if_pos c21] at H
        have LMc21:=aM_ c21
        clear c21
        obtain ⟨y339,hy339⟩ : ∃ y_ : List Int,y_ = (y336 ++ [(wrap64 (127 - (t330.length : Int))) % 256]):=⟨_,rfl⟩
        replace H : ((spec_Flip.f kj4 t330 0).bind fun t342=>(if y339.length + t342.length < 140737488355328 then (some (y339 ++ t342)) else (none))) = some r:=by first | (rw [hy339];with_reducible exact H) | (have H2_:=(Option.bind_some _ _).symm.trans H;rw [hy339];with_reducible exact H2_) | (have H2_:=(Option.bind_some _ _).symm.trans H;with_reducible exact H2_) | with_reducible exact H | (rw [hy339];exact H) | exact H
        have Ny339:=aM_ hy339
        clear hy339
        replace H:=oB_ H
        obtain ⟨t342,A220,H⟩:=H
        replace H : (if y339.length + t342.length < 140737488355328 then (some (y339 ++ t342)) else (none)) = some r:=H
        have A22:=aM_ A220
        clear A220
        by_cases c23 : y339.length + t342.length < 140737488355328
        ·rw [if_pos c23] at H
         have LMc23:=aM_ c23
         clear c23
         obtain ⟨y345,hy345⟩ : ∃ y_ : List Int,y_ = (y339 ++ t342):=⟨_,rfl⟩
         replace H : (some y345) = some r:=by first | (rw [hy345];with_reducible exact H) | (have H2_:=(Option.bind_some _ _).symm.trans H;rw [hy345];with_reducible exact H2_) | (have H2_:=(Option.bind_some _ _).symm.trans H;with_reducible exact H2_) | with_reducible exact H | (rw [hy345];exact H) | exact H
         have Ny345:=aM_ hy345
         clear hy345
         obtain rfl:=Option.some.inj H
         go_wp2_with (first | ((with_reducible refine gate_callee (f:=146) rfl ?_);refine goesL_ (some 28) rfl rfl Try.func146 (by kernel_rfl) rfl #[.int .i64 (wrap64 ((-1) - x1_4))] rfl (by (try simp only [mA_,mC_,mN_]);first | done | rfl | (simp only [lD_,lT_];rfl)) ?_;(with_reducible refine (spec_l4Bytes.calls kj4 (wrap64 ((-1) - x1_4)) t330 _ A19.out).mono ?_);rintro e w24 ⟨v331,rfl,ho0,hb⟩;refine ⟨_,rfl,?_⟩;have n0_:=aM_ (Kd.R_lower ho0 (bS_ (by exact bZ_ HB)));have n1_:=aM_ (bT_ (by exact bZ_ HB) hb);clear HB;have HO332:=n0_;have HB:=n1_;clear n0_ n1_;(try clear hb);(try clear hb2);(try clear hk);(try clear hi);(try clear ho0)) | ((with_reducible refine gate_dst (N:=29) rfl ?_);refine Kd.R_lit (Kd.int .u8) _ 5 ?hg (N:=29) ?hd (xs:=([] : List Int)) (inner:=[]) (ok:=fun _=>True) (okp:=fun _=>True) ?hr ?hp (fun _ hk=>hk) trivial (Below.refl _ _) (Nat.le_refl _) (by simp) ?_;(case hd=>rfl);(case hg=>rfl);(case hr=>first | (go_simp;done) | (go_simp;rfl));(case hp=>exact (Reps.none _ _));intro v334 w25 ho26 hb hg_ hnew_;clear hg_ hnew_;(first | rw [← Ny333.out] at ho26 | (simp only [Int.reduceToNat] at ho26;rw [← Ny333.out] at ho26));have n0_:=aM_ (Kd.R_elder' (by exact rZ_ HO332) (Kd.R_base ho26) hb);have n1_:=aM_ (Kd.R_lower (Kd.R_new' ho26 (Kd.R_lt (by exact rZ_ HO332))) (bS_ (by exact bZ_ HB)));have n2_:=aM_ (bT_ (by exact bZ_ HB) hb);clear HO332;clear HB;have HO332:=n0_;have HO335:=n1_;have HB:=n2_;clear n0_ n1_ n2_;clear hb ho26) | ((with_reducible refine gate_builtin (b:=.append) (xs:=#[.tmp 29,.tmp 30]) rfl ?_);at_builtin;refine Kd.R_append_rows (Kd.int .u8) (w0:=w) w.heap.size rfl (.tmp 29) (.tmp 30) 27 5 (.int .u8 0) 1 rfl Try.underlying27 info5 rfl (by decide) (by omega) v334 y333 l0 _ _ _ (fun k_=>some k_ ≠ (v331 : Value).ownBlock) (fun _=>False) rfl rfl ?aO ?aR (fun _ _ h=>h) (fun _ h=>h.elim) ?aF ?aB ?aS ?aL ?_;(case aR=>repeat (first | exact (Kd.C_below HR0.out HB.out) | (with_reducible refine cA_ ?_ _) | (with_reducible refine cN_ ?_ _) | (with_reducible refine cD_ ?_)));(case aB=>exact (by exact bZ_ HB));(case aF=>exact (fun k_ hk=>Kd.fresh' (Kd.R_lt (by exact rZ_ HO332)) k_ hk));(case aO=>exact (by (with_reducible repeat (first | apply rA_ | apply rN_ | apply rD_));exact Kd.R_mono HO335.out (fun _ hk=>hk.2)));(case aS=>exact (bS_ (by exact bZ_ HB)));(case aL=>have:=LMc20.out;omega);intro v337 w27 ho hb hg hat;rw [← Ny336.out] at ho;have n0_:=aM_ (Kd.R_after (ok:=(fun _=>True)) (by exact rZ_ HO332) hg hat);have n1_:=aM_ (hb);have n2_:=aM_ (ho);clear HO332;clear HB;clear HO335;have HO332:=n0_;have HB:=n1_;have HO338:=n2_;clear n0_ n1_ n2_;clear ho hb hg hat;obtain ⟨Ao28,co28,eo28⟩:=Kd.R_slice HO332.out;subst eo28) | ((with_reducible refine gate_builtin (b:=.append) (xs:=#[.tmp 31,.tmp 36]) rfl ?_);at_builtin;refine Kd.R_append (Kd.int .u8) (w0:=w) w.heap.size rfl (.tmp 31) (.tmp 36) 27 5 (.int .u8 0) 1 rfl Try.underlying27 info5 rfl (by decide) (by omega) v337 y336 ((wrap64 (127 - (t330.length : Int))) % 256) [.int .u8 ((wrap64 (127 - (t330.length : Int))) % 256)] (fun k_=>some k_ ≠ (.slice Ao28 t330.length co28 : Value).ownBlock) (fun _=>False) rfl rfl ?aP (fun _ hk=>hk.elim) ?aF ?aO ?aB ?aS ?aL ?_;(case aP=>exact rfl);(case aB=>exact (by exact bZ_ HB));(case aF=>exact (fun k_ hk=>Kd.fresh' (Kd.R_lt (by exact rZ_ HO332)) k_ hk));(case aO=>exact (by exact rZ_ HO338));(case aS=>exact (bS_ (by exact bZ_ HB)));(case aL=>have:=LMc21.out;omega);intro v340 w29 ho hb hg hat;rw [← Ny339.out] at ho;have n0_:=aM_ (Kd.R_after (ok:=(fun _=>True)) (by exact rZ_ HO332) hg hat);have n1_:=aM_ (hb);have n2_:=aM_ (ho);clear HO332;clear HB;clear HO338;have HO332:=n0_;have HB:=n1_;have HO341:=n2_;clear n0_ n1_ n2_;clear ho hb hg hat) | ((with_reducible refine gate_callee (f:=147) rfl ?_);refine goesL_ (some 39) rfl rfl Try.func147 (by kernel_rfl) rfl #[.slice Ao28 t330.length co28,.int .i64 0] rfl (by (try simp only [mA_,mC_,mN_]);first | done | rfl | (simp only [lD_,lT_];rfl)) ?_;(with_reducible refine (spec_Flip.calls kj4 _ _ t330 0 t342 _ ?side1 ?side2 A22.out).mono ?_);(case side1=>repeat (first | exact (Kd.R_reads' HO332.out).2.2 | (with_reducible refine cA_ ?_ _) | (with_reducible refine cN_ ?_ _) | (with_reducible refine cD_ ?_)));(case side2=>exact (Kd.R_reads' HO332.out).2.1);rintro e w30 ⟨v343,rfl,ho0,hb⟩;refine ⟨_,rfl,?_⟩;have n0_:=aM_ (Kd.R_elder' (by exact rZ_ HO332) (Kd.R_base ho0) hb);have n1_:=aM_ (Kd.R_elder' (by exact rZ_ HO341) (Kd.R_base ho0) hb);have n2_:=aM_ (Kd.R_lower (Kd.R_new' (Kd.R_new' ho0 (Kd.R_lt (by exact rZ_ HO332))) (Kd.R_lt (by exact rZ_ HO341))) (bS_ (by exact bZ_ HB)));have n3_:=aM_ (bT_ (by exact bZ_ HB) hb);clear HO332;clear HO341;clear HB;have HO332:=n0_;have HO341:=n1_;have HO344:=n2_;have HB:=n3_;clear n0_ n1_ n2_ n3_;(try clear hb);(try clear hb2);(try clear hk);(try clear hi);(try clear ho0);obtain ⟨Ao32,co32,eo32⟩:=Kd.R_slice HO344.out;subst eo32) | ((with_reducible refine gate_builtin (b:=.append) (xs:=#[.tmp 37,.tmp 39]) rfl ?_);at_builtin;refine Kd.R_append_rows (Kd.int .u8) (w0:=w) w.heap.size rfl (.tmp 37) (.tmp 39) 27 5 (.int .u8 0) 1 rfl Try.underlying27 info5 rfl (by decide) (by omega) v340 y339 t342 _ _ _ (fun k_=>some k_ ≠ (.slice Ao28 t330.length co28 : Value).ownBlock ∧ some k_ ≠ (.slice Ao32 t342.length co32 : Value).ownBlock) (fun _=>False) rfl rfl ?aO ?aR (fun _ _ h=>h) (fun _ h=>h.elim) ?aF ?aB ?aS ?aL ?_;(case aR=>repeat (first | exact (Kd.R_reads' HO344.out).2.2 | (with_reducible refine cA_ ?_ _) | (with_reducible refine cN_ ?_ _) | (with_reducible refine cD_ ?_)));(case aB=>exact (by exact bZ_ HB));(case aF=>exact (fun k_ hk=>⟨Kd.fresh' (Kd.R_lt (by exact rZ_ HO332)) k_ hk,Kd.fresh' (Kd.R_lt (by exact rZ_ HO344)) k_ hk⟩));(case aO=>exact (by exact rZ_ HO341));(case aS=>exact (bS_ (by exact bZ_ HB)));(case aL=>have:=LMc23.out;omega);intro v346 w31 ho hb hg hat;rw [← Ny345.out] at ho;have n0_:=aM_ (Kd.R_after (ok:=(fun k_=>some k_ ≠ (.slice Ao32 t342.length co32 : Value).ownBlock)) (by (with_reducible repeat (first | apply rA_ | apply rN_ | apply rD_));exact Kd.R_mono HO332.out (fun _ hk=>⟨hk.2,hk.1.2⟩)) hg hat);have n1_:=aM_ (Kd.R_after (ok:=(fun k_=>some k_ ≠ (.slice Ao28 t330.length co28 : Value).ownBlock)) (by (with_reducible repeat (first | apply rA_ | apply rN_ | apply rD_));exact Kd.R_mono HO344.out (fun _ hk=>⟨hk.1.2,hk.2⟩)) hg hat);have n2_:=aM_ (hb);have n3_:=aM_ (ho);clear HO332;clear HO344;clear HB;clear HO341;have HO332:=n0_;have HO344:=n1_;have HB:=n2_;have HO347:=n3_;clear n0_ n1_ n2_ n3_;clear ho hb hg hat))
         go_ret
         exact ⟨_,by first | rfl | (simp [errW_none,errW_some] <;> rfl) | (simp [*, errW_none,errW_some] <;> rfl),by (with_reducible repeat (first | apply rA_ | apply rN_ | apply rD_));exact Kd.R_mono HO347.out (fun _ hk=>trivial),by exact bZ_ HB⟩
        ·rw [if_neg c23] at H
         exact absurd H (by simp)
       ·rw [if_neg c21] at H
        exact absurd H (by simp)
      ·rw [if_neg c20] at H
       exact absurd H (by simp)
end Go.Proofs.Ytllgmgpfdnofmaa.PFnRowsRead
